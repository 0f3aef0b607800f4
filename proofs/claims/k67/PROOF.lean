import PyProof.Rows.All
import Wide.All
import OpenK.AllK
import Wide.FinOn
import KE.KExcSuper
import HandS.ForMost
import HandS.ForExc
import HandS.ExcInit
import HandS.Nested
import HandS.Flow
import HandS.IsInst
import HandS.Wide
import HandS.StrMore
import HandS.RaiseMore
import HandS.TupAny
import HandS.Style
import HandS.NoneIn
import HandS.Conv
import HandS.Deep
import HandS.Small
import HandS.Evl
import HandS.SortInts
import HandS.More
import KE.SortData
import HandS.Lambda
import HandS.EndTab
import KE.SortKeyHeap
import KE.KSortKey
import HandS.Strs
import HandS.SetBool
import HandS.Zip
import HandS.DictComp
import PySem.Challenge.RW_saggar_k67_verdicts_and_their_judge
set_option Elab.async false
set_option linter.all false
set_option maxRecDepth 100000
set_option maxHeartbeats 4000000
/-! universal rules: by the values' constructors -/
namespace LX
open PySem PySem.Spec PyProof.Rows L2
section
variable {X : Cx}
/-! ### operators -/
def rAddU (K : PySem.W.Frag) : R2 := fun x y H Q => match x, y with
  | .int i, .int j => Q (.int (i + j)) H
  | .str i, .str j => i.length + j.length ≤ sizeLine ∧ Q (.str (i ++ j)) H
  | .ref a, .ref b => rCat (.ref a) (.ref b) H Q ∨ rCatA K (.ref a) (.ref b) H Q
  | _, _ => False
theorem op_addU : OpR X (binaryOp .Add) (rAddU X.K) := by
  intro pins s σ H x y v u Q I rx ry h
  unfold rAddU at h
  split at h
  · exact op_add pins s σ H _ _ v u Q I rx ry ⟨_, _, rfl, rfl, h⟩
  · exact op_add_str pins s σ H _ _ v u Q I rx ry ⟨_, _, rfl, rfl, h.1, h.2⟩
  · rcases h with h | h
    · exact op_cat pins s σ H _ _ v u Q I rx ry h
    · exact op_catA pins s σ H _ _ v u Q I rx ry h
  · exact h.elim
def rMulU : R2 := fun x y H Q => match x, y with
  | .int i, .int j => CMul i j ∧ Q (.int (i * j)) H
  | .ref a, .int j => rRep (.ref a) (.int j) H Q
  | _, _ => False
theorem op_mulU : OpR X (binaryOp .Mult) rMulU := by
  intro pins s σ H x y v u Q I rx ry h
  unfold rMulU at h
  split at h
  · exact op_mul pins s σ H _ _ v u Q I rx ry ⟨_, _, rfl, rfl, h.1, h.2⟩
  · exact op_rep pins s σ H _ _ v u Q I rx ry h
  · exact h.elim
/-- an order by ints, by texts -/
def rOrd (f : Int → Int → Bool) (g : List Nat → List Nat → Bool) : R2 := fun x y H Q => match x, y with
  | .int i, .int j => Q (.bl (f i j)) H
  | .str i, .str j => Q (.bl (g i.cps.toList j.cps.toList)) H
  | _, _ => False
abbrev rLtU : R2 := rOrd (fun i j => decide (i < j)) (fun i j => decide (i < j))
abbrev rLeU : R2 := rOrd (fun i j => decide (i ≤ j)) (fun i j => !decide (j < i))
abbrev rGtU : R2 := rOrd (fun i j => decide (j < i)) (fun i j => decide (j < i))
abbrev rGeU : R2 := rOrd (fun i j => decide (j ≤ i)) (fun i j => !decide (i < j))
theorem op_ltU : OpR X (compareOp .Lt) rLtU := by
  intro pins s σ H x y v u Q I rx ry h
  unfold rLtU rOrd at h
  split at h
  · exact op_lt pins s σ H _ _ v u Q I rx ry ⟨_, _, rfl, rfl, h⟩
  · exact op_lt_str pins s σ H _ _ v u Q I rx ry ⟨_, _, rfl, rfl, h⟩
  · exact h.elim
theorem op_leU : OpR X (compareOp .LtE) rLeU := by
  intro pins s σ H x y v u Q I rx ry h
  unfold rLeU rOrd at h
  split at h
  · exact op_le pins s σ H _ _ v u Q I rx ry ⟨_, _, rfl, rfl, h⟩
  · exact op_le_str pins s σ H _ _ v u Q I rx ry ⟨_, _, rfl, rfl, h⟩
  · exact h.elim
theorem op_gtU : OpR X (compareOp .Gt) rGtU := by
  intro pins s σ H x y v u Q I rx ry h
  unfold rGtU rOrd at h
  split at h
  · exact op_gt pins s σ H _ _ v u Q I rx ry ⟨_, _, rfl, rfl, h⟩
  · exact op_gt_str pins s σ H _ _ v u Q I rx ry ⟨_, _, rfl, rfl, h⟩
  · exact h.elim
theorem op_geU : OpR X (compareOp .GtE) rGeU := by
  intro pins s σ H x y v u Q I rx ry h
  unfold rGeU rOrd at h
  split at h
  · exact op_ge pins s σ H _ _ v u Q I rx ry ⟨_, _, rfl, rfl, h⟩
  · exact op_ge_str pins s σ H _ _ v u Q I rx ry ⟨_, _, rfl, rfl, h⟩
  · exact h.elim
/-- ==, != : two objects (deep), else by value -/
def rEqU (K : PySem.W.Frag) (g : Bool → Bool) : R2 := fun x y H Q => match x, y with
  | .ref a, .ref b => ∃ d e, Dp K H (.ref a) d ∧ Dp K H (.ref b) e ∧ SeqAt.shaped d = true ∧ SeqAt.shaped e = true ∧ Q (.bl (g (PyData.eqv d e))) H
  | x, y => scal x y = true ∧ Q (.bl (g (decide (x = y)))) H
theorem op_eqU (hu : X.A.units + 64 < cLine) : OpR X (compareOp .Eq) (rEqU X.K id) := by
  intro pins s σ H x y v u Q I rx ry h
  unfold rEqU at h
  split at h
  · exact op_eqD hu pins s σ H _ _ v u Q I rx ry h
  · exact op_eq pins s σ H _ _ v u Q I rx ry h
theorem op_neU (hu : X.A.units + 64 < cLine) : OpR X (compareOp .NotEq) (rEqU X.K (!·)) := by
  intro pins s σ H x y v u Q I rx ry h
  unfold rEqU at h
  split at h
  · exact op_neD hu pins s σ H _ _ v u Q I rx ry h
  · exact op_ne pins s σ H _ _ v u Q I rx ry h
/-- x is None, True, False -/
def rIsU (g : Bool → Bool) : R2 := fun x y H Q => match y with
  | .non => Q (.bl (g (decide (x = .non)))) H
  | .bl b => Q (.bl (g (decide (x = .bl b)))) H
  | _ => False
theorem op_isU : OpR X (compareOp .Is) (rIsU id) := by
  intro pins s σ H x y v u Q I rx ry h
  unfold rIsU at h
  split at h
  · exact op_isN pins s σ H _ _ v u Q I rx ry ⟨rfl, h⟩
  · rename_i b
    cases (show u = Value.bool b from ry)
    by_cases e : x = .bl b
    · subst e
      cases (show v = Value.bool b from rx)
      exact wpAny_is_self rfl ⟨.bl true, H, I, rfl, by simpa using h⟩
    · refine wpAny_is_other ?_ ?_ ⟨.bl false, H, I, rfl, by simpa [e] using h⟩
      · first | rfl | (cases x <;> first | rfl | (cases rx; rfl) | (obtain ⟨t, rfl⟩ := rx; rfl))
      · intro z
        subst z
        exact e (RelV.inj rx rfl)
  · exact h.elim
theorem op_isnotU : OpR X (compareOp .IsNot) (rIsU (!·)) := by
  intro pins s σ H x y v u Q I rx ry h
  unfold rIsU at h
  split at h
  · exact op_notN pins s σ H _ _ v u Q I rx ry ⟨rfl, h⟩
  · rename_i b
    cases (show u = Value.bool b from ry)
    by_cases e : x = .bl b
    · subst e
      cases (show v = Value.bool b from rx)
      exact wpAny_isNot_self rfl ⟨.bl false, H, I, rfl, by simpa using h⟩
    · refine wpAny_isNot_other ?_ ?_ ⟨.bl true, H, I, rfl, by simpa [e] using h⟩
      · first | rfl | (cases x <;> first | rfl | (cases rx; rfl) | (obtain ⟨t, rfl⟩ := rx; rfl))
      · intro z
        subst z
        exact e (RelV.inj rx rfl)
  · exact h.elim
/-! ### subscripts, slices, in -/
def rIxU (K : PySem.W.Frag) : R2 := fun x y H Q => match x with
  | .str z => ∃ i c, y = .int i ∧ z.length ≤ sizeLine ∧ atI z.cps.toList i = some c ∧ Q (.str ⟨#[c]⟩) H
  | .ref p => (∃ xs i v, y = .int i ∧ (SqL K H p xs ∨ SqT K H p xs) ∧ atI xs i = some v ∧ Q v H) ∨ (∃ v, DGet H p y (some v) ∧ Q v H)
  | _ => False
theorem ix_U (hu : X.A.units + 1 < cLine) : IxR X (rIxU X.K) := by
  intro value slice pins s σ H x y v u Q I rx ry h hs
  unfold rIxU at h
  split at h
  · obtain ⟨i, c, rfl, h1, h2, q⟩ := h
    exact ix_str value slice pins s σ H _ _ v u Q I rx ry ⟨_, _, _, rfl, rfl, h1, h2, q⟩ hs
  · rcases h with ⟨xs, i, w', rfl, h1 | h1, h2, q⟩ | ⟨w', g, q⟩
    · exact ix_list value slice pins s σ H _ _ v u Q I rx ry ⟨_, _, _, _, rfl, rfl, h1, h2, q⟩ hs
    · exact ix_tup value slice pins s σ H _ _ v u Q I rx ry ⟨_, _, _, _, rfl, rfl, h1, h2, q⟩ hs
    · rename_i p
      obtain rfl : v = Value.ref p := rx
      exact tail_any (dict_typeIs I g) PySem.F.slot_dict_getitem.lookup (d_getItem hu I g ry fun w2 s2 I2 rw2 => ⟨w', H, I2, rw2, q⟩) hs
  · exact h.elim
def rSlU (K : PySem.W.Frag) : V → Option Int → Option Int → Hp → VK → Prop := fun x lo hi H Q => match x with
  | .str z => z.length ≤ sizeLine ∧ Q (.str (cutS z lo hi)) H
  | .ref a => rSlL K (.ref a) lo hi H Q ∨ rSlA K (.ref a) lo hi H Q
  | _ => False
theorem sl_U : SlR X (rSlU X.K) := by
  intro pins s σ H x v vl vu lo hi sl Q I rx hs pl pu h
  unfold rSlU at h
  split at h
  · exact sl_str pins s σ H _ v vl vu lo hi sl Q I rx hs pl pu ⟨_, rfl, h.1, h.2⟩
  · rcases h with h | h
    · exact sl_list pins s σ H _ v vl vu lo hi sl Q I rx hs pl pu h
    · exact sl_tupA pins s σ H _ v vl vu lo hi sl Q I rx hs pl pu h
  · exact h.elim
/-- in, not in -/
def rInU (K : PySem.W.Frag) (g : Bool → Bool) : R2 := fun x y H Q => match y with
  | .str z => (∃ c : Nat, x = .str ⟨#[c]⟩ ∧ Q (.bl (g (decide (c ∈ z.cps.toList)))) H) ∨ ∃ i, x = .str i ∧ Q (.bl (g (!(Builtin.Str.occurrences z i 0 z.length 1).isEmpty))) H
  | .ref p => (∃ xs, (SqL K H p xs ∨ SqT K H p xs) ∧ flatV x = true ∧ xs.all flatV = true ∧ Q (.bl (g (inV x xs))) H) ∨ (∃ o, DGet H p x o ∧ Q (.bl (g o.isSome)) H)
  | _ => False
theorem op_inU (hu : X.A.units + 1 < cLine) : OpR X (compareOp .In) (rInU X.K id) := by
  intro pins s σ H x y v u Q I rx ry h
  unfold rInU at h
  split at h
  · rcases h with ⟨c, rfl, q⟩ | ⟨i, rfl, q⟩
    · exact op_in_sign pins s σ H _ _ v u Q I rx ry ⟨_, _, rfl, rfl, q⟩
    · exact op_in_str pins s σ H _ _ v u Q I rx ry ⟨_, _, rfl, rfl, q⟩
  · rcases h with ⟨xs, h1, h2, h3, q⟩ | ⟨o, g, q⟩
    · exact op_in_seq pins s σ H _ _ v u Q I rx ry ⟨_, xs, rfl, h1, h2, h3, q⟩
    · rename_i p
      obtain rfl : u = Value.ref p := ry
      exact d_in hu I g rx fun s3 I3 => ⟨.bl o.isSome, H, I3, rfl, q⟩
  · exact h.elim
theorem op_ninU (hu : X.A.units + 1 < cLine) : OpR X (compareOp .NotIn) (rInU X.K (!·)) := by
  intro pins s σ H x y v u Q I rx ry h
  unfold rInU at h
  split at h
  · rcases h with ⟨c, rfl, q⟩ | ⟨i, rfl, q⟩
    · exact op_notIn_sign pins s σ H _ _ v u Q I rx ry ⟨_, _, rfl, rfl, q⟩
    · exact op_notin_str pins s σ H _ _ v u Q I rx ry ⟨_, _, rfl, rfl, q⟩
  · rcases h with ⟨xs, h1, h2, h3, q⟩ | ⟨o, g, q⟩
    · exact op_notIn_seq pins s σ H _ _ v u Q I rx ry ⟨_, xs, rfl, h1, h2, h3, q⟩
    · rename_i p
      obtain rfl : u = Value.ref p := ry
      exact d_notIn hu I g rx fun s3 I3 => ⟨.bl (!o.isSome), H, I3, rfl, q⟩
  · exact h.elim
/-! ### calls -/
def rLenU (K : PySem.W.Frag) : List V → Hp → VK → Prop := fun xs H Q => match xs with
  | [.str z] => z.length ≤ sizeLine ∧ Q (.int z.length) H
  | [.ref p] => (∃ ys, (SqL K H p ys ∨ SqT K H p ys) ∧ Q (.int ys.length) H) ∨ ∃ kvs, H p = some (.dK kvs) ∧ Q (.int kvs.length) H
  | _ => False
theorem call_lenU : CallR X (.builtin "len") (rLenU X.K) := by
  intro pins s σ H xs us Q I r h
  unfold rLenU at h
  split at h
  · exact call_len_str pins s σ H _ us Q I r ⟨_, rfl, h.1, h.2⟩
  · rcases h with ⟨ys, h1, q⟩ | ⟨kvs, h1, q⟩
    · exact call_len_seq pins s σ H _ us Q I r ⟨_, ys, rfl, h1, q⟩
    · exact call_lenD pins s σ H _ us Q I r ⟨_, kvs, rfl, h1, q⟩
  · exact h.elim
def rIntU : List V → Hp → VK → Prop := fun xs H Q => match xs with
  | [.int i] => Q (.int i) H
  | [.bl k] => Q (.int (if k then 1 else 0)) H
  | [.str a] => ∃ n, PySem.intText? a = some n ∧ a.length ≤ 640 ∧ Q (.int n) H
  | _ => False
theorem call_intU : CallR X (.type "int") rIntU := by
  intro pins s σ H xs us Q I r h
  unfold rIntU at h
  split at h
  · exact call_int1 pins s σ H _ us Q I r (.inl ⟨_, rfl, h⟩)
  · exact call_int1 pins s σ H _ us Q I r (.inr ⟨_, rfl, h⟩)
  · obtain ⟨n, h1, h2, q⟩ := h
    exact call_int_str pins s σ H _ us Q I r ⟨_, n, rfl, h1, h2, q⟩
  · exact h.elim
def rStrU : List V → Hp → VK → Prop := fun xs H Q => match xs with
  | [.int i] => i.natAbs.log2 < 1920 ∧ Q (.str (toString i)) H
  | [.str a] => Q (.str a) H
  | _ => False
theorem call_strU : CallR X (.type "str") rStrU := by
  intro pins s σ H xs us Q I r h
  unfold rStrU at h
  split at h
  · exact call_str_int pins s σ H _ us Q I r ⟨_, rfl, h.1, h.2⟩
  · exact SkE.call_str_str pins s σ H _ us Q I r ⟨_, rfl, h⟩
  · exact h.elim
/-- isinstance: a built-in type or an own class -/
def rIsU2 (K : PySem.W.Frag) : List V → Hp → VK → Prop := fun xs H Q => ∃ (x c : V) (t u : Value) (b : Bool), xs = [x, c] ∧ ClsV c u ∧ TyX K H x t ∧ PySem.W.kitOne K t u = some b ∧ Q (.bl b) H
end
theorem hu64_of {A : Around} {k : Nat} (hr : Room k A) : A.units + 64 < cLine := by have := hr.un; omega
theorem ite_eq {c d : Bool} {A B : Prop} (e : c = d) (h : if d = true then A else B) : if c = true then A else B := by rw [e]; exact h
theorem iteD {c : Prop} [Decidable c] {A B : Prop} (h1 : c → A) (h2 : ¬ c → B) : if decide c = true then A else B := by
  by_cases h : c
  · rw [decide_eq_true h]; exact iteT (h1 h)
  · rw [decide_eq_false h]; exact iteF (h2 h)
theorem iteND {c : Prop} [Decidable c] {A B : Prop} (h1 : ¬ c → A) (h2 : c → B) : if (!decide c) = true then A else B := by
  by_cases h : c
  · rw [decide_eq_true h]; exact iteF (h2 h)
  · rw [decide_eq_false h]; exact iteT (h1 h)
/-- a text by its signs -/
abbrev T (l : List Nat) : Str := ⟨l.toArray⟩
theorem T_of (z : Str) : z = T z.cps.toList := rfl
theorem T_inj {a b : List Nat} (h : T a = T b) : a = b := congrArg (fun x : Str => x.cps.toList) h
theorem T_app (a b : List Nat) : T a ++ T b = T (a ++ b) := by
  show (⟨a.toArray ++ b.toArray⟩ : Str) = ⟨(a ++ b).toArray⟩
  simp
theorem T_dec (a b : List Nat) : decide (V.str (T a) = V.str (T b)) = decide (a = b) := by
  by_cases h : a = b
  · subst h; simp
  · have : ¬ V.str (T a) = V.str (T b) := fun z => h (T_inj (V.str.inj z))
    rw [decide_eq_false this, decide_eq_false h]
theorem I_dec (a b : Int) : decide (V.int a = V.int b) = decide (a = b) := by
  by_cases h : a = b
  · subst h; simp
  · have : ¬ V.int a = V.int b := fun z => h (V.int.inj z)
    rw [decide_eq_false this, decide_eq_false h]
theorem B_dec (a b : Bool) : decide (V.bl a = V.bl b) = (a == b) := by cases a <;> cases b <;> rfl
theorem pe_strT {X : Cx} {x : Str} {l : List Nat} {j : Nat} {pos : Pos} (e : x = T l) : PE X (.Constant (.str x) j pos) (tC (.str (T l))) := by subst e; exact pe_str
theorem pv_some {X : Cx} : True := True.intro
theorem bb_len : bootBuiltins "len" = some (.builtin "len") := by first | rfl | decide +kernel
theorem bb_isinstance : bootBuiltins "isinstance" = some (.builtin "isinstance") := by first | rfl | decide +kernel
theorem bb_abs : bootBuiltins "abs" = some (.builtin "abs") := by first | rfl | decide +kernel
theorem bb_sorted : bootBuiltins "sorted" = some (.builtin "sorted") := by first | rfl | decide +kernel
theorem bb_min : bootBuiltins "min" = some (.builtin "min") := by first | rfl | decide +kernel
theorem bb_max : bootBuiltins "max" = some (.builtin "max") := by first | rfl | decide +kernel
theorem bb_sum : bootBuiltins "sum" = some (.builtin "sum") := by first | rfl | decide +kernel
theorem bb_all : bootBuiltins "all" = some (.builtin "all") := by first | rfl | decide +kernel
theorem bb_any : bootBuiltins "any" = some (.builtin "any") := by first | rfl | decide +kernel
theorem bb_repr : bootBuiltins "repr" = some (.builtin "repr") := by first | rfl | decide +kernel
theorem bb_int : bootBuiltins "int" = some (.type "int") := by first | rfl | decide +kernel
theorem bb_str : bootBuiltins "str" = some (.type "str") := by first | rfl | decide +kernel
theorem bb_bool : bootBuiltins "bool" = some (.type "bool") := by first | rfl | decide +kernel
theorem bb_list : bootBuiltins "list" = some (.type "list") := by first | rfl | decide +kernel
theorem bb_dict : bootBuiltins "dict" = some (.type "dict") := by first | rfl | decide +kernel
theorem bb_tuple : bootBuiltins "tuple" = some (.type "tuple") := by first | rfl | decide +kernel
theorem bb_set : bootBuiltins "set" = some (.type "set") := by first | rfl | decide +kernel
theorem bb_ValueError : bootBuiltins "ValueError" = some (.type "ValueError") := by first | rfl | decide +kernel
theorem pe_gi {X : Cx} {x : Str} {z : Int} {t : Tok} {pos : Pos} (hg : Gl X x) (hm : X.mg x = some (.int z t)) (hd : (x == ("__debug__" : Str)) = false := by decide) : PE X (.Name x pos) (tC (.int z)) := pe_glob hg hm ⟨_, rfl⟩ hd
theorem pe_gs {X : Cx} {x : Str} {z : Str} {t : Tok} {pos : Pos} (hg : Gl X x) (hm : X.mg x = some (.str z t)) (hd : (x == ("__debug__" : Str)) = false := by decide) : PE X (.Name x pos) (tC (.str z)) := pe_glob hg hm ⟨_, rfl⟩ hd
theorem pe_gr {X : Cx} {x : Str} {a : Addr} {pos : Pos} (hg : Gl X x) (hm : X.mg x = some (.ref a)) (hd : (x == ("__debug__" : Str)) = false := by decide) : PE X (.Name x pos) (tC (.ref a)) := pe_glob hg hm rfl hd
theorem pe_bt {X : Cx} {x : Str} {n : String} {pos : Pos} (hg : Gl X x) (hm : X.mg x = none) (hv : bootBuiltins x = some (.type n)) (hn : x ≠ "__name__" := by decide) (hd : (x == ("__debug__" : Str)) = false := by decide) : PE X (.Name x pos) (tC (.ty n)) := pe_bltn hg hm hv rfl hn hd
/-! isinstance against built-in types -/
theorem kt_int_int {K : PySem.W.Frag} : PySem.W.kitOne K (.type "int") (.type "int") = some true := kit_ty (by decide +kernel)
theorem kt_int_bool {K : PySem.W.Frag} : PySem.W.kitOne K (.type "int") (.type "bool") = some false := kit_ty (by decide +kernel)
theorem kt_int_str {K : PySem.W.Frag} : PySem.W.kitOne K (.type "int") (.type "str") = some false := kit_ty (by decide +kernel)
theorem kt_int_list {K : PySem.W.Frag} : PySem.W.kitOne K (.type "int") (.type "list") = some false := kit_ty (by decide +kernel)
theorem kt_int_tuple {K : PySem.W.Frag} : PySem.W.kitOne K (.type "int") (.type "tuple") = some false := kit_ty (by decide +kernel)
theorem kt_int_dict {K : PySem.W.Frag} : PySem.W.kitOne K (.type "int") (.type "dict") = some false := kit_ty (by decide +kernel)
theorem kt_bool_int {K : PySem.W.Frag} : PySem.W.kitOne K (.type "bool") (.type "int") = some true := kit_ty (by decide +kernel)
theorem kt_bool_bool {K : PySem.W.Frag} : PySem.W.kitOne K (.type "bool") (.type "bool") = some true := kit_ty (by decide +kernel)
theorem kt_bool_str {K : PySem.W.Frag} : PySem.W.kitOne K (.type "bool") (.type "str") = some false := kit_ty (by decide +kernel)
theorem kt_bool_list {K : PySem.W.Frag} : PySem.W.kitOne K (.type "bool") (.type "list") = some false := kit_ty (by decide +kernel)
theorem kt_bool_tuple {K : PySem.W.Frag} : PySem.W.kitOne K (.type "bool") (.type "tuple") = some false := kit_ty (by decide +kernel)
theorem kt_bool_dict {K : PySem.W.Frag} : PySem.W.kitOne K (.type "bool") (.type "dict") = some false := kit_ty (by decide +kernel)
theorem kt_str_int {K : PySem.W.Frag} : PySem.W.kitOne K (.type "str") (.type "int") = some false := kit_ty (by decide +kernel)
theorem kt_str_bool {K : PySem.W.Frag} : PySem.W.kitOne K (.type "str") (.type "bool") = some false := kit_ty (by decide +kernel)
theorem kt_str_str {K : PySem.W.Frag} : PySem.W.kitOne K (.type "str") (.type "str") = some true := kit_ty (by decide +kernel)
theorem kt_str_list {K : PySem.W.Frag} : PySem.W.kitOne K (.type "str") (.type "list") = some false := kit_ty (by decide +kernel)
theorem kt_str_tuple {K : PySem.W.Frag} : PySem.W.kitOne K (.type "str") (.type "tuple") = some false := kit_ty (by decide +kernel)
theorem kt_str_dict {K : PySem.W.Frag} : PySem.W.kitOne K (.type "str") (.type "dict") = some false := kit_ty (by decide +kernel)
theorem kt_list_int {K : PySem.W.Frag} : PySem.W.kitOne K (.type "list") (.type "int") = some false := kit_ty (by decide +kernel)
theorem kt_list_bool {K : PySem.W.Frag} : PySem.W.kitOne K (.type "list") (.type "bool") = some false := kit_ty (by decide +kernel)
theorem kt_list_str {K : PySem.W.Frag} : PySem.W.kitOne K (.type "list") (.type "str") = some false := kit_ty (by decide +kernel)
theorem kt_list_list {K : PySem.W.Frag} : PySem.W.kitOne K (.type "list") (.type "list") = some true := kit_ty (by decide +kernel)
theorem kt_list_tuple {K : PySem.W.Frag} : PySem.W.kitOne K (.type "list") (.type "tuple") = some false := kit_ty (by decide +kernel)
theorem kt_list_dict {K : PySem.W.Frag} : PySem.W.kitOne K (.type "list") (.type "dict") = some false := kit_ty (by decide +kernel)
theorem kt_tuple_int {K : PySem.W.Frag} : PySem.W.kitOne K (.type "tuple") (.type "int") = some false := kit_ty (by decide +kernel)
theorem kt_tuple_bool {K : PySem.W.Frag} : PySem.W.kitOne K (.type "tuple") (.type "bool") = some false := kit_ty (by decide +kernel)
theorem kt_tuple_str {K : PySem.W.Frag} : PySem.W.kitOne K (.type "tuple") (.type "str") = some false := kit_ty (by decide +kernel)
theorem kt_tuple_list {K : PySem.W.Frag} : PySem.W.kitOne K (.type "tuple") (.type "list") = some false := kit_ty (by decide +kernel)
theorem kt_tuple_tuple {K : PySem.W.Frag} : PySem.W.kitOne K (.type "tuple") (.type "tuple") = some true := kit_ty (by decide +kernel)
theorem kt_tuple_dict {K : PySem.W.Frag} : PySem.W.kitOne K (.type "tuple") (.type "dict") = some false := kit_ty (by decide +kernel)
theorem kt_dict_int {K : PySem.W.Frag} : PySem.W.kitOne K (.type "dict") (.type "int") = some false := kit_ty (by decide +kernel)
theorem kt_dict_bool {K : PySem.W.Frag} : PySem.W.kitOne K (.type "dict") (.type "bool") = some false := kit_ty (by decide +kernel)
theorem kt_dict_str {K : PySem.W.Frag} : PySem.W.kitOne K (.type "dict") (.type "str") = some false := kit_ty (by decide +kernel)
theorem kt_dict_list {K : PySem.W.Frag} : PySem.W.kitOne K (.type "dict") (.type "list") = some false := kit_ty (by decide +kernel)
theorem kt_dict_tuple {K : PySem.W.Frag} : PySem.W.kitOne K (.type "dict") (.type "tuple") = some false := kit_ty (by decide +kernel)
theorem kt_dict_dict {K : PySem.W.Frag} : PySem.W.kitOne K (.type "dict") (.type "dict") = some true := kit_ty (by decide +kernel)
theorem kt_NoneType_int {K : PySem.W.Frag} : PySem.W.kitOne K (.type "NoneType") (.type "int") = some false := kit_ty (by decide +kernel)
theorem kt_NoneType_bool {K : PySem.W.Frag} : PySem.W.kitOne K (.type "NoneType") (.type "bool") = some false := kit_ty (by decide +kernel)
theorem kt_NoneType_str {K : PySem.W.Frag} : PySem.W.kitOne K (.type "NoneType") (.type "str") = some false := kit_ty (by decide +kernel)
theorem kt_NoneType_list {K : PySem.W.Frag} : PySem.W.kitOne K (.type "NoneType") (.type "list") = some false := kit_ty (by decide +kernel)
theorem kt_NoneType_tuple {K : PySem.W.Frag} : PySem.W.kitOne K (.type "NoneType") (.type "tuple") = some false := kit_ty (by decide +kernel)
theorem kt_NoneType_dict {K : PySem.W.Frag} : PySem.W.kitOne K (.type "NoneType") (.type "dict") = some false := kit_ty (by decide +kernel)
end LX
/-! sorted(x) of a list of whole numbers or of a dict with such keys, any number of them -/
namespace LX
open PySem PySem.Spec PyProof.Rows L2
section
variable {X : Cx}
theorem call_sortedDA (hcalm : X.calm = true) : CallR X (.builtin "sorted") (fun xs H Q => ∃ (a : Addr) (kvs : List (Key × V)) (ks : List Int), xs = [.ref a] ∧ Rd H a (.dK kvs) ∧ kvs.map (·.1) = ks.map Sum.inl ∧
    ∀ (ys : List Int) (p : Addr), ys.Perm ks → ys.Pairwise (· ≤ ·) → H p = none → Q (.ref p) (upd H p (.lst (ys.map V.int)))) := by
  intro pins s σ H xs us Q I r q
  obtain ⟨a, kvs, ks, ex, hd, hks, q⟩ := q
  subst ex
  obtain ⟨u, eu, rx⟩ := vals1 r
  subst eu
  cases rx
  obtain ⟨z, lo, vs, rel, dd⟩ := dk_rd I.hok hd
  obtain ⟨ep, hat⟩ := dd.dictAt
  have hkeys : vs.map (·.1) = ks.map Sum.inl := rel.keys.symm.trans hks
  have hl : vs.length = ks.length := by
    have e := congrArg List.length hkeys
    rw [List.length_map, List.length_map] at e
    exact e
  have hkl : ks.length ≤ sizeLine := by
    have e := congrArg List.length hks
    rw [List.length_map, List.length_map] at e
    omega
  have h16 : vs.length ≤ sizeLine := by rw [hl]; exact hkl
  refine Calls.call_function_entry PyProof.Rows.kind_sorted PyProof.Rows.plain_sorted PyProof.Rows.entry_sorted (PyProof.Rows.args_sorted1 _) ?_
  unfold Builtin.«sorted»
  refine wpAny_bind (m := checkCount "sorted" 1 1 _) (wpAny_pure ?_)
  refine wpAny_bind (PySem.W.kdu_collect (A := X.A.in1) (PySem.W.kdl_dict (knd := mixKind X.prog X.w) (kvs := vs) (ep := ep) lo) (I.ok.hd hcalm) hat h16 fun h' tk acc hk hacc => ?_)
  have hal : acc.toList.length = ks.length := by rw [Array.length_toList, hacc.1, hl]
  have hS : IntsAre acc.toList ks := ints_each hal fun j v e => by
    obtain ⟨k, x, e1, e2⟩ := hacc.2 j v (by rw [← Array.getElem?_toList]; exact e)
    have e3 : (vs.map (·.1))[j]? = some k := by rw [List.getElem?_map, e1]; rfl
    rw [hkeys, List.getElem?_map] at e3
    cases e4 : ks[j]? with
    | none => rw [e4] at e3; cases e3
    | some y =>
      rw [e4] at e3
      have e5 : Sum.inl y = k := Option.some.inj e3
      subst e5
      rcases keyIs_shape (show keyIs (Sum.inl y) v = true from e2) with ⟨i, t, ek, ev⟩ | ⟨z, t, ek, ev⟩
      · cases ek
        exact ⟨y, t, rfl, ev⟩
      · cases ek
  have I1 : Inv X pins σ H { s with heap := h', toks := tk } := I.kept hk
  refine wpAny_bind (wpAny_newList ?_ (by rw [hal]; exact hkl))
  have hoL : (h'.push (seqObj "list" acc.toList.toArray 0)).get? h'.objs.size = some (seqObj "list" acc.toList.toArray 0) := Heap.get?_push_size _ rfl
  show wpAny _ _ _ _ _ { s with heap := h'.push (seqObj "list" acc.toList.toArray 0), toks := tk }
  refine wpAny_bind (wpAny_holding (wpAny_call_entry PyProof.Rows.slot_list_sort ⟨_, hoL, rfl⟩ PyProof.Rows.entry_list_sort
    (SrtO.list_sort_ord (s := { s with heap := h'.push (seqObj "list" acc.toList.toArray 0), toks := tk }) SrtO.swo_int hoL (by rw [hal]; exact hkl) (fun h2 => SrtO.ints_sortable hS h2) fun out h1 h2 => ⟨.none, rfl, ?_⟩) (PyProof.Rows.args_list_sort _)))
  obtain ⟨k1, k2, k3⟩ := SrtO.ints_out hS h1 h2
  obtain ⟨e', he'⟩ := PyProof.Rows.sortedHeap_at (vs := acc.toList) (out := out.toArray) hoL
  have hlen : ((out.map SrtO.iv).map V.int).length ≤ sizeLine := by
    rw [List.length_map, k2.length_eq]
    exact hkl
  refine wpAny_pure ⟨_, rfl, .ref h'.objs.size, upd H h'.objs.size (.lst ((out.map SrtO.iv).map V.int)), I1.laid (t' := tk) (fun b u e => ?_) (Nat.le_refl _)
    (show ObjOk X.prog X.w _ _ _ (.lst ((out.map SrtO.iv).map V.int)) from ⟨hlen, out, e', vals_of_ints k1, he'⟩), rfl, q _ _ k2 k3 (I1.hok.fresh (Nat.le_refl _))⟩
  have hb : b < h'.objs.size := Heap.lt_size e
  rw [PyProof.Rows.sortedHeap_old (Nat.ne_of_lt hb) (by rw [size_push']; exact Nat.lt_succ_of_lt hb)]
  exact Heap.get?_push_of_some _ e
def rSortedU (K : PySem.W.Frag) : List V → Hp → VK → Prop := fun vs H Q => ∃ (a : Addr) (ns : List Int), vs = [V.ref a] ∧ (SqL K H a (ns.map V.int) ∨ ∃ kvs : List (Key × V), Rd H a (.dK kvs) ∧ kvs.map (·.1) = ns.map Sum.inl) ∧
  ∀ (ns' : List Int) (p : Addr), ns'.Perm ns → ns'.Pairwise (· ≤ ·) → H p = none → Q (.ref p) (upd H p (.lst (ns'.map V.int)))
theorem call_sortedU (hcalm : X.calm = true) : CallR X (.builtin "sorted") (rSortedU X.K) := by
  intro pins s σ H xs us Q I r h
  obtain ⟨a, ns, rfl, h1 | ⟨kvs, h1, h2⟩, q⟩ := h
  · exact cr_sortedI pins s σ H _ us Q I r ⟨a, ns, rfl, h1, q⟩
  · exact call_sortedDA hcalm pins s σ H _ us Q I r ⟨a, kvs, ns, rfl, h1, h2, q⟩
end
end LX
/-! the rules of LBase with the law's own K, for the parts of a comprehension -/
namespace LX
open PySem PySem.Spec PyProof.Rows L2
section
variable {X : Cx} {K : PySem.W.Frag}
theorem ix_UK (e : X.K = K) (hu : X.A.units + 1 < cLine) : IxR X (rIxU K) := by subst e; exact ix_U hu
theorem op_addUK (e : X.K = K) : OpR X (binaryOp .Add) (rAddU K) := by subst e; exact op_addU
theorem op_eqUK (e : X.K = K) (hu : X.A.units + 64 < cLine) : OpR X (compareOp .Eq) (rEqU K id) := by subst e; exact op_eqU hu
theorem op_neUK (e : X.K = K) (hu : X.A.units + 64 < cLine) : OpR X (compareOp .NotEq) (rEqU K (!·)) := by subst e; exact op_neU hu
theorem op_inUK (e : X.K = K) (hu : X.A.units + 1 < cLine) : OpR X (compareOp .In) (rInU K id) := by subst e; exact op_inU hu
theorem op_ninUK (e : X.K = K) (hu : X.A.units + 1 < cLine) : OpR X (compareOp .NotIn) (rInU K (!·)) := by subst e; exact op_ninU hu
theorem sl_UK (e : X.K = K) : SlR X (rSlU K) := by subst e; exact sl_U
theorem call_lenUK (e : X.K = K) : CallR X (.builtin "len") (rLenU K) := by subst e; exact call_lenU
theorem pe_fldK {o : Expr} {f : Str} {pos : Pos} {ta : TE} (e : X.K = K) (he : PE X o ta) (hb : attributeBase o f X.env (eval o X.env) = eval o X.env) : PE X (.Attribute o f pos) (tFld K ta f) := by subst e; exact pe_fld he hb
def tTruK (K : PySem.W.Frag) (ta : TE) : TT := fun σ H Q => ta σ H fun x H' => ∃ k, TruV K x H' k ∧ Q k H'
theorem pt_truthK {a : Expr} {ta : TE} (e : X.K = K) (ha : PE X a ta) (he : ∀ whole, isTrue a X.env whole = (do let v ← whole; standAt a.pos; holding [v] (truthy v))) :
    PT X a (tTruK K ta) := by subst e; exact pt_truth ha he
end
end LX
/-! the reading, step by step: one rule a head; the step tactic is printed from mkauto.py -/
namespace LX
open PySem PySem.Spec PyProof.Rows L2
/-- every old thing outside of F is kept -/
def Fr (F : List Addr) (H H' : Hp) : Prop := ∀ b o, H b = some o → b ∉ F → H' b = some o
theorem Fr.rfl' {F : List Addr} {H : Hp} : Fr F H H := fun _ _ e _ => e
theorem Fr.trans {F : List Addr} {H H1 H2 : Hp} (a : Fr F H H1) (b : Fr F H1 H2) : Fr F H H2 := fun c o e n => b c o (a c o e n) n
theorem Fr.new {F : List Addr} {H : Hp} {q : Addr} {o : HO} (hq : H q = none) : Fr F H (upd H q o) := fun c u e _ => by rw [upd_ne (ne_of_none e hq)]; exact e
theorem Fr.at {F : List Addr} {H : Hp} {q : Addr} {o : HO} (hq : q ∈ F) : Fr F H (upd H q o) := fun c u e n => by rw [upd_ne (fun z => n (by rw [z]; exact hq))]; exact e
theorem Fr.mono {F G : List Addr} {H H' : Hp} (a : Fr F H H') (h : ∀ b, b ∈ F → b ∈ G) : Fr G H H' := fun c o e n => a c o e fun m => n (h c m)
theorem Fr.skip {F : List Addr} {H H' : Hp} {q : Addr} {o : HO} (f : Fr F H H') (hq : H q = none) : Fr F H (upd H' q o) := fun b u e n => by rw [upd_ne (ne_of_none e hq)]; exact f b u e n
theorem Fr.g {F : List Addr} {H H' : Hp} (f : Fr F H H') {a : Addr} {o : HO} (h : H a = some o) (n : a ∉ F) : H' a = some o := f a o h n
theorem Fr.g0 {H H' : Hp} (f : Fr [] H H') {a : Addr} {o : HO} (h : H a = some o) : H' a = some o := f a o h (by simp)
/-- what is free later was free before -/
theorem Fr.none {H H' : Hp} (f : Fr [] H H') {q : Addr} (h : H' q = Option.none) : H q = Option.none := by
  cases e : H q with
  | none => rfl
  | some o => rw [f.g0 e] at h; cases h
theorem Fr.noneF {F : List Addr} {H H' : Hp} (f : Fr F H H') {q : Addr} (h : H' q = Option.none) (n : q ∉ F) : H q = Option.none := by
  cases e : H q with
  | none => rfl
  | some o => rw [f q o e n] at h; cases h
section
variable {K : PySem.W.Frag} {σ : L2.St} {H : Hp} {D : Ends}
/-! ### statements -/
theorem z_seq {t u : TS} (h : t { D with nx := u D } σ H) : tSeq t u D σ H := h
theorem z_next (h : D.nx σ H) : tNext D σ H := h
theorem z_brk (h : D.bk σ H) : tBreak D σ H := h
theorem z_cont (h : D.ct σ H) : tCont D σ H := h
theorem z_asg {te : TE} {g : TG} (h : te σ H fun x H1 => g x σ H1 D.nx) : tAsg te g D σ H := h
theorem z_drop {te : TE} (h : te σ H fun _ H1 => D.nx σ H1) : tDrop te D σ H := h
theorem z_ret {te : TE} (h : te σ H D.rt) : tRet te D σ H := h
theorem z_retN (h : D.rt .non H) : tRetN D σ H := h
theorem z_ifs {c : TT} {t u : TS} (h : c σ H fun b H1 => if b = true then t D σ H1 else u D σ H1) : tIfS c t u D σ H := h
theorem z_cut {t u : TS} (h : ∃ Mid : L2.St → Hp → Prop, t { D with nx := Mid } σ H ∧ ∀ σ' H', Mid σ' H' → u D σ' H') : Evl.tCut t u D σ H := h
theorem z_aug {i : Nat} {x : V} {te : TE} {ti : TIp} (e : σ[i]? = some (some x)) (h : te σ H fun y H1 => ti x y H1 fun z H2 => D.nx (σ.set i (some z)) H2) : tAug i te ti D σ H := ⟨x, e, h⟩
def oFldS (K : PySem.W.Frag) (f : Str) (x y : V) (D : Hp → Prop) (H : Hp) : Prop := ∃ a C dx fs, x = .ref a ∧ H a = some (.ins C dx fs) ∧ Cls K C ∧ NoAttr K C f ∧ fs.length < 1000 ∧ D (upd H a (.ins C dx (putF f y fs)))
theorem z_flds {ta tv : TE} {f : Str} (h : tv σ H fun y H1 => ta σ H1 fun x H2 => oFldS K f x y (D.nx σ) H2) : sFld K ta tv f D σ H := h
theorem z_flds1 {f : Str} {a C dx : Addr} {fs : List (Str × V)} {y : V} {Q : Hp → Prop} (h1 : H a = some (.ins C dx fs)) (h2 : Cls K C) (h3 : NoAttr K C f) (h4 : fs.length < 1000) (h : ∀ H1, Fr [a] H H1 → H1 a = some (.ins C dx (putF f y fs)) → (∀ b, H b = none → H1 b = none) → Q H1) : oFldS K f (.ref a) y Q H :=
  ⟨a, C, dx, fs, rfl, h1, h2, h3, h4, h _ (Fr.at (by simp)) upd_same (fun b e => by rw [upd_ne (ne_of_none h1 e).symm]; exact e)⟩
def oDPut (x y v : V) (D : Hp → Prop) (H : Hp) : Prop := ∃ a H4, x = .ref a ∧ DPut H a y v H4 ∧ D H4
theorem z_dput {td ty tv : TE} (h : tv σ H fun v H1 => td σ H1 fun x H2 => ty σ H2 fun y H3 => oDPut x y v (D.nx σ) H3) : sDPut td ty tv D σ H := h
theorem upd_free {H : Hp} {a : Addr} {o u : HO} (h1 : H a = some u) : ∀ b, H b = none → upd H a o b = none := fun b e => by rw [upd_ne (ne_of_none h1 e).symm]; exact e
theorem z_dputI {a : Addr} {n : Int} {v : V} {kvs : List (Key × V)} {Q : Hp → Prop} (h1 : H a = some (.dK kvs)) (h2 : kvs.length < sizeLine) (h : ∀ H1, Fr [a] H H1 → H1 a = some (.dK (putK kvs (.inl n) v)) → (∀ b, H b = none → H1 b = none) → Q H1) : oDPut (.ref a) (.int n) v Q H :=
  ⟨a, _, rfl, DPut.k (k := Sum.inl n) h1 h2, h _ (Fr.at (by simp)) upd_same (upd_free h1)⟩
theorem z_dputS {a : Addr} {n : Str} {v : V} {kvs : List (Key × V)} {Q : Hp → Prop} (h1 : H a = some (.dK kvs)) (h2 : kvs.length < sizeLine) (h : ∀ H1, Fr [a] H H1 → H1 a = some (.dK (putK kvs (.inr n) v)) → (∀ b, H b = none → H1 b = none) → Q H1) : oDPut (.ref a) (.str n) v Q H :=
  ⟨a, _, rfl, DPut.k (k := Sum.inr n) h1 h2, h _ (Fr.at (by simp)) upd_same (upd_free h1)⟩
/-! ### targets -/
theorem z_gtup {n : Nat} {t : TGs} {a : Addr} {xs : List V} {Q : L2.St → Hp → Prop} (h1 : H a = some (.tup xs)) (h2 : xs.length = n) (h : t xs σ H Q) : gTup K n t (.ref a) σ H Q := ⟨a, xs, rfl, SqT.of h1, h2, h⟩
theorem z_gcons {t : TG} {u : TGs} {v : V} {r : List V} {Q : L2.St → Hp → Prop} (h : t v σ H fun σ' H' => u r σ' H' Q) : gCons t u (v :: r) σ H Q := ⟨v, r, rfl, h⟩
theorem z_gnil {Q : L2.St → Hp → Prop} (h : Q σ H) : gNil [] σ H Q := ⟨rfl, h⟩
theorem z_gsub {to ti : TE} {t : TSet} {v : V} {Q : L2.St → Hp → Prop} (h : to σ H fun o H1 => ti σ H1 fun i H2 => t o i v H2 fun H3 => Q σ H3) : gSub to ti t v σ H Q := h
theorem z_setL {p : Addr} {xs : List V} {k : Int} {j : Nat} {v : V} {Q : Hp → Prop} (h1 : H p = some (.lst xs)) (h2 : ixN xs.length k = some j) (h : ∀ H1, Fr [p] H H1 → H1 p = some (.lst (xs.set j v)) → (∀ b, H b = none → H1 b = none) → Q H1) : rSetL (.ref p) (.int k) v H Q :=
  ⟨p, xs, k, j, rfl, rfl, h1, h2, h _ (Fr.at (by simp)) upd_same (upd_free h1)⟩
/-! ### expressions -/
variable {Q : VK}
theorem z_c {v : V} (h : Q v H) : tC v σ H Q := h
theorem z_op {r : R2} {ta tb : TE} (h : ta σ H fun x H1 => tb σ H1 fun y H2 => r x y H2 Q) : tOp r ta tb σ H Q := h
theorem z_un {r : V → Hp → VK → Prop} {ta : TE} (h : ta σ H fun x H1 => r x H1 Q) : tUn r ta σ H Q := h
/-- a new thing -/
def oNew (o : HO) (n : Nat) (H : Hp) (Q : VK) : Prop := n ≤ sizeLine ∧ ∀ p, H p = none → Q (.ref p) (upd H p o)
theorem z_tup {t : TA} (h : t σ H fun xs H1 => oNew (.tup xs) xs.length H1 Q) : tTup t σ H Q := h
theorem z_lst {t : TA} (h : t σ H fun xs H1 => oNew (.lst xs) xs.length H1 Q) : tLst t σ H Q := h
theorem z_newL {n : Nat} {o : HO} (hn : n ≤ sizeLine) (h : ∀ p H1, H p = none → Fr [] H H1 → H1 p = some o → Q (.ref p) H1) : oNew o n H Q := ⟨hn, fun p hp => h p _ hp (Fr.new hp) upd_same⟩
theorem sz1 {n : Nat} (h : n ≤ 1000) : n ≤ sizeLine := by rw [sizeLine_eq]; omega
def rListU (K : PySem.W.Frag) : List V → Hp → VK → Prop := fun xs H Q => ∃ p ys, xs = [.ref p] ∧ (SqL K H p ys ∨ SqT K H p ys) ∧ ∀ l, H l = none → Q (.ref l) (upd H l (.lst ys))
theorem call_listU {X : Cx} : CallR X (.type "list") (rListU X.K) := call_list_of
theorem call_listUK {X : Cx} {K : PySem.W.Frag} (e : X.K = K) : CallR X (.type "list") (rListU K) := by subst e; exact call_listU
theorem z_new {o : HO} (h : ∀ p H1, H p = none → Fr [] H H1 → H1 p = some o → Q (.ref p) H1) : ∀ p, H p = none → Q (.ref p) (upd H p o) := fun p hp => h p _ hp (Fr.new hp) upd_same
theorem z_dnew (h : ∀ p H1, H p = none → Fr [] H H1 → H1 p = some (.dK []) → Q (.ref p) H1) : tDNewK σ H Q := fun p hp => h p _ hp (Fr.new hp) upd_same
theorem z_nil {Q : List V → Hp → Prop} (h : Q [] H) : tNil σ H Q := h
theorem z_cons {ta : TE} {tr : TA} {Q : List V → Hp → Prop} (h : ta σ H fun x H1 => tr σ H1 fun xs H2 => Q (x :: xs) H2) : tCons ta tr σ H Q := h
theorem z_cb {r : List V → Hp → VK → Prop} {t : TA} (h : t σ H fun vs H1 => r vs H1 Q) : tCB r t σ H Q := h
theorem z_call {sp : Sp} {dvs : List V} {E : XK} {t : TA} (h : t σ H fun vs H1 => sp (vs ++ dvs) H1 Q E) : tCall sp dvs E t σ H Q := h
def oMeth (C : Addr) (m : Str) (x : V) (R : Hp → Prop) (H : Hp) : Prop := ∃ a dx fs, x = .ref a ∧ H a = some (.ins C dx fs) ∧ fs.lookup m = none ∧ R H
theorem z_meth {C : Addr} {m : Str} {sp : Sp} {dvs : List V} {E : XK} {ta : TE} {t : TA} (h : ta σ H fun x H1 => oMeth C m x (fun H1 => t σ H1 fun vs H2 => sp (x :: (vs ++ dvs)) H2 Q E) H1) : tMeth C m sp dvs E ta t σ H Q := h
theorem z_meth1 {C : Addr} {m : Str} {a dx : Addr} {fs : List (Str × V)} {R : Hp → Prop} (h1 : H a = some (.ins C dx fs)) (h2 : fs.lookup m = none) (h : R H) : oMeth C m (.ref a) R H := ⟨a, dx, fs, rfl, h1, h2, h⟩
theorem z_make {C : Addr} {sp : Sp} {dvs : List V} {E : XK} {t : TA} (h : t σ H fun vs H1 => ∀ x dx, H1 x = none → H1 dx = none → dx ≠ x → sp (.ref x :: (vs ++ dvs)) (upd (upd H1 dx (.own x)) x (.ins C dx [])) (fun v H2 => v = .non ∧ Q (.ref x) H2) E) : tMake C sp dvs E t σ H Q := h
def oFld (K : PySem.W.Frag) (f : Str) (x : V) (H : Hp) (Q : VK) : Prop := ∃ a C dx fs v, x = .ref a ∧ H a = some (.ins C dx fs) ∧ Cls K C ∧ NoAttr K C f ∧ fs.lookup f = some v ∧ Q v H
theorem z_fld {ta : TE} {f : Str} (h : ta σ H fun x H1 => oFld K f x H1 Q) : tFld K ta f σ H Q := h
theorem z_fld1 {f : Str} {a C dx : Addr} {fs : List (Str × V)} {v : V} (h1 : H a = some (.ins C dx fs)) (h2 : Cls K C) (h3 : NoAttr K C f) (h4 : fs.lookup f = some v) (h : Q v H) : oFld K f (.ref a) H Q := ⟨a, C, dx, fs, v, rfl, h1, h2, h3, h4, h⟩
def oBl (x : V) (H : Hp) (Q : Bool → Hp → Prop) : Prop := ∃ k, x = .bl k ∧ Q k H
theorem z_test {t : TE} {Q : Bool → Hp → Prop} (h : t σ H fun x H' => oBl x H' Q) : tTest t σ H Q := h
theorem z_tB {t : TE} {Q : Bool → Hp → Prop} (h : t σ H fun x H' => oBl x H' Q) : tB t σ H Q := h
theorem z_bl {k : Bool} {Q : Bool → Hp → Prop} (h : Q k H) : oBl (.bl k) H Q := ⟨k, rfl, h⟩
def oTru (K : PySem.W.Frag) (x : V) (H : Hp) (Q : Bool → Hp → Prop) : Prop := ∃ k, TruV K x H k ∧ Q k H
theorem z_tru {ta : TE} {Q : Bool → Hp → Prop} (h : ta σ H fun x H' => oTru K x H' Q) : (fun (σ : L2.St) (H : Hp) (Q : Bool → Hp → Prop) => ta σ H fun x H' => ∃ k, TruV K x H' k ∧ Q k H') σ H Q := h
theorem z_truK {ta : TE} {Q : Bool → Hp → Prop} (h : ta σ H fun x H' => oTru K x H' Q) : tTruK K ta σ H Q := h
theorem z_truI {k : Bool → Prop} {x : V} (h : oTru K x H (fun b _ => k b)) : ∃ b, TruV K x H b ∧ k b := h
theorem z_notT {ta : TE} (h : ta σ H fun x H' => oTru K x H' fun k H' => Q (.bl (!k)) H') : tNotT K ta σ H Q := h
theorem z_truB {k : Bool} {Q : Bool → Hp → Prop} (h : Q k H) : oTru K (.bl k) H Q := ⟨k, rfl, h⟩
theorem z_truN {Q : Bool → Hp → Prop} (h : Q false H) : oTru K .non H Q := ⟨false, rfl, h⟩
theorem z_truZ {i : Int} {Q : Bool → Hp → Prop} (h : Q (i != 0) H) : oTru K (.int i) H Q := ⟨_, rfl, h⟩
theorem z_truS {y : Str} {Q : Bool → Hp → Prop} (hl : y.length ≤ sizeLine) (h : Q ((y.length : Int) != 0) H) : oTru K (.str y) H Q := ⟨_, ⟨hl, rfl⟩, h⟩
theorem z_truL {p : Addr} {xs : List V} {Q : Bool → Hp → Prop} (h1 : H p = some (.lst xs)) (h : Q (!xs.isEmpty) H) : oTru K (.ref p) H Q := ⟨_, .inl ⟨_, SqL.of h1, rfl⟩, h⟩
theorem z_truT {p : Addr} {xs : List V} {Q : Bool → Hp → Prop} (h1 : H p = some (.tup xs)) (h : Q (!xs.isEmpty) H) : oTru K (.ref p) H Q := ⟨_, .inr (.inl ⟨_, SqT.of h1, rfl⟩), h⟩
theorem z_truD {p : Addr} {kvs : List (Key × V)} {Q : Bool → Hp → Prop} (h1 : H p = some (.dK kvs)) (h : Q (!kvs.isEmpty) H) : oTru K (.ref p) H Q := ⟨_, .inr (.inr ⟨_, h1, rfl⟩), h⟩
theorem z_tand {t u : TT} {Q : Bool → Hp → Prop} (h : t σ H fun c H1 => if c = true then u σ H1 Q else Q false H1) : tAnd t u σ H Q := h
theorem z_tor {t u : TT} {Q : Bool → Hp → Prop} (h : t σ H fun c H1 => if c = true then Q true H1 else u σ H1 Q) : tOr t u σ H Q := h
theorem z_tnot {t : TT} {Q : Bool → Hp → Prop} (h : t σ H fun c H1 => Q (!c) H1) : tNot t σ H Q := h
theorem z_yes {Q : Bool → Hp → Prop} (h : Q true H) : tYes σ H Q := h
theorem z_andV {ta tb : TE} (h : ta σ H fun x H1 => oBl x H1 fun c H1 => if c = true then tb σ H1 Q else Q (.bl false) H1) : tAndV ta tb σ H Q := h
theorem z_orV {ta tb : TE} (h : ta σ H fun x H1 => oBl x H1 fun c H1 => if c = true then Q (.bl true) H1 else tb σ H1 Q) : tOrV ta tb σ H Q := h
theorem z_tIf {t : TT} {ta tb : TE} (h : t σ H fun c H1 => if c = true then ta σ H1 Q else tb σ H1 Q) : tIf t ta tb σ H Q := h
/-! ### operators -/
theorem z_addI {i j : Int} (h : Q (.int (i + j)) H) : rAddU K (.int i) (.int j) H Q := h
theorem z_addS {i j : Str} (hl : i.length + j.length ≤ sizeLine) (h : Q (.str (i ++ j)) H) : rAddU K (.str i) (.str j) H Q := ⟨hl, h⟩
theorem z_addL {a b : Addr} {xs zs : List V} (h1 : H a = some (.lst xs)) (h2 : H b = some (.lst zs)) (h3 : xs.length + zs.length ≤ sizeLine) (h : ∀ p H1, H p = none → Fr [] H H1 → H1 p = some (.lst (xs ++ zs)) → Q (.ref p) H1) : rAddU K (.ref a) (.ref b) H Q := Or.inl ⟨a, b, xs, zs, rfl, rfl, h1, h2, h3, z_new h⟩
theorem z_rI {C : Int → Int → Prop} {g : Int → Int → V} {i j : Int} (hc : C i j) (h : Q (g i j) H) : rI C g (.int i) (.int j) H Q := ⟨i, j, rfl, rfl, hc, h⟩
theorem z_rI0 {g : Int → Int → V} {i j : Int} (h : Q (g i j) H) : rI0 g (.int i) (.int j) H Q := ⟨i, j, rfl, rfl, h⟩
theorem z_mulI {i j : Int} (hc : CMul i j) (h : Q (.int (i * j)) H) : rMulU (.int i) (.int j) H Q := ⟨hc, h⟩
theorem z_rep {l : Addr} {xs : List V} {k : Int} (n : Nat) (h1 : H l = some (.lst xs)) (hk : k = (n : Int)) (hn : n < 2 ^ 63) (h3 : xs.length * n ≤ sizeLine) (h : ∀ p H1, H p = none → Fr [] H H1 → H1 p = some (.lst (List.replicate n xs).flatten) → Q (.ref p) H1) : rMulU (.ref l) (.int k) H Q := by
  subst hk
  exact ⟨l, n, xs, rfl, rfl, h1, by omega, by omega, by rw [Int.toNat_natCast]; exact h3, z_new (by rw [Int.toNat_natCast]; exact h)⟩
theorem z_rU {g : Int → V} {i : Int} (h : Q (g i) H) : rU g (.int i) H Q := ⟨i, rfl, h⟩
theorem z_ordI {f : Int → Int → Bool} {g : List Nat → List Nat → Bool} {i j : Int} (h : Q (.bl (f i j)) H) : rOrd f g (.int i) (.int j) H Q := h
theorem z_ordS {f : Int → Int → Bool} {g : List Nat → List Nat → Bool} {i j : Str} (h : Q (.bl (g i.cps.toList j.cps.toList)) H) : rOrd f g (.str i) (.str j) H Q := h
theorem z_eqI {i j : Int} (h : Q (.bl (decide (i = j))) H) : rEqU K id (.int i) (.int j) H Q := ⟨rfl, by show Q (.bl (decide (V.int i = V.int j))) H; rw [I_dec]; exact h⟩
theorem z_neI {i j : Int} (h : Q (.bl (!decide (i = j))) H) : rEqU K (!·) (.int i) (.int j) H Q := ⟨rfl, by show Q (.bl (!decide (V.int i = V.int j))) H; rw [I_dec]; exact h⟩
theorem S_dec (a b : Str) : decide (V.str a = V.str b) = decide (a = b) := by
  by_cases h : a = b
  · subst h; simp
  · have : ¬ V.str a = V.str b := fun z => h (V.str.inj z)
    rw [decide_eq_false this, decide_eq_false h]
theorem z_eqS {i j : Str} (h : Q (.bl (decide (i = j))) H) : rEqU K id (.str i) (.str j) H Q := ⟨rfl, by show Q (.bl (decide (V.str i = V.str j))) H; rw [S_dec]; exact h⟩
theorem z_neS {i j : Str} (h : Q (.bl (!decide (i = j))) H) : rEqU K (!·) (.str i) (.str j) H Q := ⟨rfl, by show Q (.bl (!decide (V.str i = V.str j))) H; rw [S_dec]; exact h⟩
theorem z_isNP {x : V} (h : Q (.bl ((decide (x = .non)))) H) : rIsU id x .non H Q := h
theorem z_isNQ {x : V} (h : Q (.bl (!(decide (x = .non)))) H) : rIsU (!·) x .non H Q := h
theorem z_isNiP {i : Int} (h : Q (.bl false) H) : rIsU id (.int i) .non H Q := h
theorem z_isNiN {i : Int} (h : Q (.bl true) H) : rIsU (!·) (.int i) .non H Q := h
theorem z_isNsP {i : Str} (h : Q (.bl false) H) : rIsU id (.str i) .non H Q := h
theorem z_isNsN {i : Str} (h : Q (.bl true) H) : rIsU (!·) (.str i) .non H Q := h
theorem z_isNrP {a : Addr} (h : Q (.bl false) H) : rIsU id (.ref a) .non H Q := h
theorem z_isNrN {a : Addr} (h : Q (.bl true) H) : rIsU (!·) (.ref a) .non H Q := h
theorem z_isNbP {b : Bool} (h : Q (.bl false) H) : rIsU id (.bl b) .non H Q := h
theorem z_isNbN {b : Bool} (h : Q (.bl true) H) : rIsU (!·) (.bl b) .non H Q := h
theorem z_isNnP (h : Q (.bl true) H) : rIsU id .non .non H Q := h
theorem z_isNnN (h : Q (.bl false) H) : rIsU (!·) .non .non H Q := h
theorem z_isBP {x : V} {b : Bool} (h : Q (.bl ((decide (x = .bl b)))) H) : rIsU id x (.bl b) H Q := h
theorem z_isBQ {x : V} {b : Bool} (h : Q (.bl (!(decide (x = .bl b)))) H) : rIsU (!·) x (.bl b) H Q := h
theorem z_ixL {p : Addr} {xs : List V} {i : Int} {v : V} (h1 : H p = some (.lst xs)) (h2 : atI xs i = some v) (h : Q v H) : rIxU K (.ref p) (.int i) H Q := Or.inl ⟨xs, i, v, rfl, Or.inl (SqL.of h1), h2, h⟩
theorem z_ixT {p : Addr} {xs : List V} {i : Int} {v : V} (h1 : H p = some (.tup xs)) (h2 : atI xs i = some v) (h : Q v H) : rIxU K (.ref p) (.int i) H Q := Or.inl ⟨xs, i, v, rfl, Or.inr (SqT.of h1), h2, h⟩
theorem z_ixD {p : Addr} {kvs : List (Key × V)} {n : Int} {v : V} (h1 : H p = some (.dK kvs)) (h2 : valV kvs (.inl n) = some v) (h : Q v H) : rIxU K (.ref p) (.int n) H Q := Or.inr ⟨v, by rw [← h2]; exact DGet.k (k := Sum.inl n) h1, h⟩
theorem z_ixDf {p : Addr} {kvs : List (Key × V)} {od : Obj} {n : Int} {v : V} (h1 : H p = some (.frz od (.dK kvs))) (h2 : valV kvs (.inl n) = some v) (h : Q v H) : rIxU K (.ref p) (.int n) H Q := Or.inr ⟨v, by rw [← h2]; exact .inl ⟨kvs, .inl n, .inr ⟨od, h1⟩, rfl, rfl⟩, h⟩
theorem z_ixDS {p : Addr} {kvs : List (Key × V)} {n : Str} {v : V} (h1 : H p = some (.dK kvs)) (h2 : valV kvs (.inr n) = some v) (h : Q v H) : rIxU K (.ref p) (.str n) H Q := Or.inr ⟨v, by rw [← h2]; exact DGet.k (k := Sum.inr n) h1, h⟩
theorem z_ixS {z : Str} {i : Int} {c : Nat} (h1 : z.length ≤ sizeLine) (h2 : atI z.cps.toList i = some c) (h : Q (.str ⟨#[c]⟩) H) : rIxU K (.str z) (.int i) H Q := ⟨i, c, rfl, h1, h2, h⟩
theorem z_inDIP {p : Addr} {kvs : List (Key × V)} {n : Int} (h1 : H p = some (.dK kvs)) (h : Q (.bl ((valV kvs (.inl n)).isSome)) H) : rInU K id (.int n) (.ref p) H Q := Or.inr ⟨_, DGet.k (k := Sum.inl n) h1, h⟩
theorem z_inDIN {p : Addr} {kvs : List (Key × V)} {n : Int} (h1 : H p = some (.dK kvs)) (h : Q (.bl (!(valV kvs (.inl n)).isSome)) H) : rInU K (!·) (.int n) (.ref p) H Q := Or.inr ⟨_, DGet.k (k := Sum.inl n) h1, h⟩
theorem z_inDfP {p : Addr} {kvs : List (Key × V)} {od : Obj} {n : Int} (h1 : H p = some (.frz od (.dK kvs))) (h : Q (.bl ((valV kvs (.inl n)).isSome)) H) : rInU K id (.int n) (.ref p) H Q := Or.inr ⟨_, .inl ⟨kvs, .inl n, .inr ⟨od, h1⟩, rfl, rfl⟩, h⟩
theorem z_inDfN {p : Addr} {kvs : List (Key × V)} {od : Obj} {n : Int} (h1 : H p = some (.frz od (.dK kvs))) (h : Q (.bl (!(valV kvs (.inl n)).isSome)) H) : rInU K (!·) (.int n) (.ref p) H Q := Or.inr ⟨_, .inl ⟨kvs, .inl n, .inr ⟨od, h1⟩, rfl, rfl⟩, h⟩
theorem z_inDSP {p : Addr} {kvs : List (Key × V)} {n : Str} (h1 : H p = some (.dK kvs)) (h : Q (.bl ((valV kvs (.inr n)).isSome)) H) : rInU K id (.str n) (.ref p) H Q := Or.inr ⟨_, DGet.k (k := Sum.inr n) h1, h⟩
theorem z_inDSN {p : Addr} {kvs : List (Key × V)} {n : Str} (h1 : H p = some (.dK kvs)) (h : Q (.bl (!(valV kvs (.inr n)).isSome)) H) : rInU K (!·) (.str n) (.ref p) H Q := Or.inr ⟨_, DGet.k (k := Sum.inr n) h1, h⟩
theorem z_inLP {p : Addr} {xs : List V} {x : V} (h1 : H p = some (.lst xs)) (h2 : flatV x = true) (h3 : xs.all flatV = true) (h : Q (.bl ((inV x xs))) H) : rInU K id x (.ref p) H Q := Or.inl ⟨xs, Or.inl (SqL.of h1), h2, h3, h⟩
theorem z_inLN {p : Addr} {xs : List V} {x : V} (h1 : H p = some (.lst xs)) (h2 : flatV x = true) (h3 : xs.all flatV = true) (h : Q (.bl (!(inV x xs))) H) : rInU K (!·) x (.ref p) H Q := Or.inl ⟨xs, Or.inl (SqL.of h1), h2, h3, h⟩
theorem z_inTP {p : Addr} {xs : List V} {x : V} (h1 : H p = some (.tup xs)) (h2 : flatV x = true) (h3 : xs.all flatV = true) (h : Q (.bl ((inV x xs))) H) : rInU K id x (.ref p) H Q := Or.inl ⟨xs, Or.inr (SqT.of h1), h2, h3, h⟩
theorem z_inTN {p : Addr} {xs : List V} {x : V} (h1 : H p = some (.tup xs)) (h2 : flatV x = true) (h3 : xs.all flatV = true) (h : Q (.bl (!(inV x xs))) H) : rInU K (!·) x (.ref p) H Q := Or.inl ⟨xs, Or.inr (SqT.of h1), h2, h3, h⟩
def tSlO := @tSl
theorem z_sl {r : V → Option Int → Option Int → Hp → VK → Prop} {te : TE} {tl th : TO} (h : te σ H fun x H1 => tl σ H1 fun l H2 => th σ H2 fun u H3 => r x l u H3 Q) : tSl r te tl th σ H Q := h
theorem z_nopart {Q : Option Int → Hp → Prop} (h : Q none H) : tNoPart σ H Q := h
def oPart (x : V) (H : Hp) (Q : Option Int → Hp → Prop) : Prop := ∃ i, x = .int i ∧ Q (some i) H
theorem z_part {t : TE} {Q : Option Int → Hp → Prop} (h : t σ H fun x H1 => oPart x H1 Q) : tPart t σ H Q := h
theorem z_part1 {i : Int} {Q : Option Int → Hp → Prop} (h : Q (some i) H) : oPart (.int i) H Q := ⟨i, rfl, h⟩
theorem z_slS {z : Str} {lo hi : Option Int} (h1 : z.length ≤ sizeLine) (h : Q (.str (cutS z lo hi)) H) : rSlU K (.str z) lo hi H Q := ⟨h1, h⟩
theorem z_slL {a : Addr} {xs : List V} {lo hi : Option Int} (h1 : H a = some (.lst xs)) (h : ∀ p H1, H p = none → Fr [] H H1 → H1 p = some (.lst (cutV xs lo hi)) → Q (.ref p) H1) : rSlU K (.ref a) lo hi H Q := Or.inl ⟨a, xs, rfl, SqL.of h1, z_new h⟩
/-! ### builtins -/
theorem z_lenS {z : Str} (h1 : z.length ≤ sizeLine) (h : Q (.int z.length) H) : rLenU K [.str z] H Q := ⟨h1, h⟩
theorem z_lenL {p : Addr} {ys : List V} (h1 : H p = some (.lst ys)) (h : Q (.int ys.length) H) : rLenU K [.ref p] H Q := Or.inl ⟨ys, Or.inl (SqL.of h1), h⟩
theorem z_lenT {p : Addr} {ys : List V} (h1 : H p = some (.tup ys)) (h : Q (.int ys.length) H) : rLenU K [.ref p] H Q := Or.inl ⟨ys, Or.inr (SqT.of h1), h⟩
theorem z_lenD {p : Addr} {kvs : List (Key × V)} (h1 : H p = some (.dK kvs)) (h : Q (.int kvs.length) H) : rLenU K [.ref p] H Q := Or.inr ⟨kvs, h1, h⟩
theorem z_intI {i : Int} (h : Q (.int i) H) : rIntU [.int i] H Q := h
theorem z_intB {k : Bool} (h : Q (.int (if k then 1 else 0)) H) : rIntU [.bl k] H Q := h
theorem z_isi {x c : V} {t u : Value} {b : Bool} (h1 : ClsV c u) (h2 : TyX K H x t) (h3 : PySem.W.kitOne K t u = some b) (h : Q (.bl b) H) : rIsi K [x, c] H Q := ⟨x, c, t, u, b, rfl, h1, h2, h3, h⟩
theorem z_isi_int_int {i : Int} (h : Q (.bl true) H) : rIsi K [.int i, .ty "int"] H Q := z_isi (ClsV.ty _) (TyX.base (TyOf.int _)) kt_int_int h
theorem z_isi_int_bool {i : Int} (h : Q (.bl false) H) : rIsi K [.int i, .ty "bool"] H Q := z_isi (ClsV.ty _) (TyX.base (TyOf.int _)) kt_int_bool h
theorem z_isi_int_str {i : Int} (h : Q (.bl false) H) : rIsi K [.int i, .ty "str"] H Q := z_isi (ClsV.ty _) (TyX.base (TyOf.int _)) kt_int_str h
theorem z_isi_int_list {i : Int} (h : Q (.bl false) H) : rIsi K [.int i, .ty "list"] H Q := z_isi (ClsV.ty _) (TyX.base (TyOf.int _)) kt_int_list h
theorem z_isi_int_tuple {i : Int} (h : Q (.bl false) H) : rIsi K [.int i, .ty "tuple"] H Q := z_isi (ClsV.ty _) (TyX.base (TyOf.int _)) kt_int_tuple h
theorem z_isi_int_dict {i : Int} (h : Q (.bl false) H) : rIsi K [.int i, .ty "dict"] H Q := z_isi (ClsV.ty _) (TyX.base (TyOf.int _)) kt_int_dict h
theorem z_isi_str_int {i : Str} (h : Q (.bl false) H) : rIsi K [.str i, .ty "int"] H Q := z_isi (ClsV.ty _) (TyX.base (TyOf.str _)) kt_str_int h
theorem z_isi_str_bool {i : Str} (h : Q (.bl false) H) : rIsi K [.str i, .ty "bool"] H Q := z_isi (ClsV.ty _) (TyX.base (TyOf.str _)) kt_str_bool h
theorem z_isi_str_str {i : Str} (h : Q (.bl true) H) : rIsi K [.str i, .ty "str"] H Q := z_isi (ClsV.ty _) (TyX.base (TyOf.str _)) kt_str_str h
theorem z_isi_str_list {i : Str} (h : Q (.bl false) H) : rIsi K [.str i, .ty "list"] H Q := z_isi (ClsV.ty _) (TyX.base (TyOf.str _)) kt_str_list h
theorem z_isi_str_tuple {i : Str} (h : Q (.bl false) H) : rIsi K [.str i, .ty "tuple"] H Q := z_isi (ClsV.ty _) (TyX.base (TyOf.str _)) kt_str_tuple h
theorem z_isi_str_dict {i : Str} (h : Q (.bl false) H) : rIsi K [.str i, .ty "dict"] H Q := z_isi (ClsV.ty _) (TyX.base (TyOf.str _)) kt_str_dict h
theorem z_isi_bool_int {i : Bool} (h : Q (.bl true) H) : rIsi K [.bl i, .ty "int"] H Q := z_isi (ClsV.ty _) (TyX.base (TyOf.bl _)) kt_bool_int h
theorem z_isi_bool_bool {i : Bool} (h : Q (.bl true) H) : rIsi K [.bl i, .ty "bool"] H Q := z_isi (ClsV.ty _) (TyX.base (TyOf.bl _)) kt_bool_bool h
theorem z_isi_bool_str {i : Bool} (h : Q (.bl false) H) : rIsi K [.bl i, .ty "str"] H Q := z_isi (ClsV.ty _) (TyX.base (TyOf.bl _)) kt_bool_str h
theorem z_isi_bool_list {i : Bool} (h : Q (.bl false) H) : rIsi K [.bl i, .ty "list"] H Q := z_isi (ClsV.ty _) (TyX.base (TyOf.bl _)) kt_bool_list h
theorem z_isi_bool_tuple {i : Bool} (h : Q (.bl false) H) : rIsi K [.bl i, .ty "tuple"] H Q := z_isi (ClsV.ty _) (TyX.base (TyOf.bl _)) kt_bool_tuple h
theorem z_isi_bool_dict {i : Bool} (h : Q (.bl false) H) : rIsi K [.bl i, .ty "dict"] H Q := z_isi (ClsV.ty _) (TyX.base (TyOf.bl _)) kt_bool_dict h
theorem z_isi_NoneType_int  (h : Q (.bl false) H) : rIsi K [.non, .ty "int"] H Q := z_isi (ClsV.ty _) (TyX.base (TyOf.non)) kt_NoneType_int h
theorem z_isi_NoneType_bool  (h : Q (.bl false) H) : rIsi K [.non, .ty "bool"] H Q := z_isi (ClsV.ty _) (TyX.base (TyOf.non)) kt_NoneType_bool h
theorem z_isi_NoneType_str  (h : Q (.bl false) H) : rIsi K [.non, .ty "str"] H Q := z_isi (ClsV.ty _) (TyX.base (TyOf.non)) kt_NoneType_str h
theorem z_isi_NoneType_list  (h : Q (.bl false) H) : rIsi K [.non, .ty "list"] H Q := z_isi (ClsV.ty _) (TyX.base (TyOf.non)) kt_NoneType_list h
theorem z_isi_NoneType_tuple  (h : Q (.bl false) H) : rIsi K [.non, .ty "tuple"] H Q := z_isi (ClsV.ty _) (TyX.base (TyOf.non)) kt_NoneType_tuple h
theorem z_isi_NoneType_dict  (h : Q (.bl false) H) : rIsi K [.non, .ty "dict"] H Q := z_isi (ClsV.ty _) (TyX.base (TyOf.non)) kt_NoneType_dict h
theorem z_isi0 {a : Addr} {c : V} {t u : Value} {b : Bool} (h1 : ClsV c u) (h2 : TyX K H (.ref a) t) (h3 : PySem.W.kitOne K t u = some b) (h : Q (.bl b) H) : rIsi K [.ref a, c] H Q := z_isi h1 h2 h3 h
theorem z_listL {p : Addr} {ys : List V} (h1 : H p = some (.lst ys)) (h : ∀ l H1, H l = none → Fr [] H H1 → H1 l = some (.lst ys) → Q (.ref l) H1) : rListU K [V.ref p] H Q := ⟨p, ys, rfl, Or.inl (SqL.of h1), z_new h⟩
/-! ### methods of lists -/
def oBM (K : PySem.W.Frag) (T : String) (x : V) (R : Hp → Prop) (H : Hp) : Prop := tyV K T x H ∧ R H
theorem z_bm0 {T : String} {r : V → List V → Hp → VK → Prop} {to : TE} (h : to σ H fun x H1 => oBM K T x (fun H1 => r x [] H1 Q) H1) : tBM0 K T r to σ H Q := h
theorem z_bm {T : String} {r : V → List V → Hp → VK → Prop} {to : TE} {t : TA} (h : to σ H fun x H1 => oBM K T x (fun H1 => t σ H1 fun xs H2 => r x xs H2 Q) H1) : tBM K T r to t σ H Q := h
theorem z_bmL {p : Addr} {xs : List V} {R : Hp → Prop} (h1 : H p = some (.lst xs)) (h : R H) : oBM K "list" (.ref p) R H := ⟨Or.inl ⟨rfl, xs, SqL.of h1⟩, h⟩
theorem z_bmS {z : Str} {R : Hp → Prop} (h : R H) : oBM K "str" (.str z) R H := ⟨rfl, h⟩
theorem z_append {l : Addr} {xs : List V} {y : V} (h1 : H l = some (.lst xs)) (h2 : xs.length < sizeLine) (h : ∀ H1, Fr [l] H H1 → H1 l = some (.lst (xs ++ [y])) → (∀ b, H b = none → H1 b = none) → Q .non H1) : rAppend (.ref l) [y] H Q := ⟨l, xs, y, rfl, rfl, h1, h2, h _ (Fr.at (by simp)) upd_same (upd_free h1)⟩
theorem z_extend {l b : Addr} {xs zs : List V} (h1 : H l = some (.lst xs)) (h2 : H b = some (.lst zs)) (h3 : xs.length + zs.length ≤ sizeLine) (h : ∀ H1, Fr [l] H H1 → H1 l = some (.lst (xs ++ zs)) → (∀ b, H b = none → H1 b = none) → Q .non H1) : rExtend (.ref l) [.ref b] H Q := ⟨l, b, xs, zs, rfl, rfl, h1, h2, h3, h _ (Fr.at (by simp)) upd_same (upd_free h1)⟩
theorem z_pop {l : Addr} {xs : List V} {y : V} (h1 : H l = some (.lst xs)) (h2 : xs[xs.length - 1]? = some y) (h : ∀ H1, Fr [l] H H1 → H1 l = some (.lst xs.dropLast) → (∀ b, H b = none → H1 b = none) → Q y H1) : rPop (.ref l) [] H Q := ⟨l, xs, y, rfl, rfl, h1, h2, h _ (Fr.at (by simp)) upd_same (upd_free h1)⟩
/-! ### the heap behind an in-place change, seen from the entry: q is new since H0 -/
theorem Fr.in {H0 H H1 : Hp} {q : Addr} (f : Fr [] H0 H) (g : Fr [q] H H1) (hq : H0 q = Option.none) : Fr [] H0 H1 := fun b o e _ => g b o (f.g0 e) (by
  have : b ≠ q := fun z => by rw [z, hq] at e; cases e
  simpa using this)
/-! ### loops' heads -/
theorem z_for {wi : TI} {g : TG} {tb : TS} (h : wi σ H fun J H1 => ∃ W : Nat → Nat → L2.St → Hp → Prop, (∃ m, W 0 m σ H1) ∧ ∀ i m σ H, W i m σ H →
  (J.stop i H ∧ D.nx σ H) ∨ (J.go i H ∧ ∃ N : L2.St → Hp → Prop, (∀ σ' H', N σ' H' → ∃ m', m' < m ∧ W (i + 1) m' σ' H') ∧ ∀ x H', J.yld i H x H' → g x σ H' fun σ2 H2 => tb { D with nx := N, ct := N, bk := D.nx } σ2 H2)) : tFor wi g tb D σ H := h
def oIter (K : PySem.W.Frag) (x : V) (H : Hp) (R : It → Hp → Prop) : Prop := ∃ a, x = .ref a ∧ (∃ xs, SqL K H a xs) ∧ R (Itl K a) H
theorem z_iList {tl : TE} {R : It → Hp → Prop} (h : tl σ H fun x H1 => oIter K x H1 R) : iList K tl σ H R := h
theorem z_iList1 {p : Addr} {xs : List V} {R : It → Hp → Prop} (h1 : H p = some (.lst xs)) (h : R (Itl K p) H) : oIter K (.ref p) H R := ⟨p, rfl, ⟨xs, SqL.of h1⟩, h⟩
def oRng1 (vs : List V) (H : Hp) (R : It → Hp → Prop) : Prop := ∃ j : Int, vs = [.int j] ∧ -(2 ^ 62) ≤ j ∧ j < 2 ^ 62 ∧ R (Itr 0 j.toNat) H
theorem z_iRng1 {ta : TA} {R : It → Hp → Prop} (h : ta σ H fun vs H1 => oRng1 vs H1 R) : iRng1 ta σ H R := h
theorem z_rng1 {j : Int} (n : Nat) {R : It → Hp → Prop} (e : j = (n : Int)) (h1 : n < 2 ^ 62) (h : R (Itr 0 n) H) : oRng1 [.int j] H R := ⟨j, rfl, by omega, by omega, by subst e; rw [Int.toNat_natCast]; exact h⟩
def oRng2 (vs : List V) (H : Hp) (R : It → Hp → Prop) : Prop := ∃ i j : Int, vs = [.int i, .int j] ∧ (-(2 ^ 62) ≤ i ∧ i < 2 ^ 62 ∧ -(2 ^ 62) ≤ j ∧ j < 2 ^ 62) ∧ R (Itr i (j - i).toNat) H
theorem z_iRng2 {ta : TA} {R : It → Hp → Prop} (h : ta σ H fun vs H1 => oRng2 vs H1 R) : iRng2 ta σ H R := h
theorem z_rng2 {i j : Int} (n : Nat) {R : It → Hp → Prop} (e : (j - i).toNat = n) (h1 : -(2 ^ 62) ≤ i ∧ i < 2 ^ 62 ∧ -(2 ^ 62) ≤ j ∧ j < 2 ^ 62) (h : R (Itr i n) H) : oRng2 [.int i, .int j] H R := ⟨i, j, rfl, h1, by rw [e]; exact h⟩
/-- a comprehension's loop -/
def oLc (J : It) (g : TG) (tt : TT) (te : TE) (vs : List Nat) (σ : L2.St) (H1 : Hp) (Q : VK) : Prop := ∀ D, H1 D = none → ∃ W : Nat → Nat → Hp → Prop, (∃ m, W 0 m (upd H1 D (.lst []))) ∧ ∀ i m H, W i m H →
  (J.stop i H ∧ Q (.ref D) H) ∨ (J.go i H ∧ ∃ N : Hp → Prop, (∀ H', N H' → ∃ m', m' < m ∧ W (i + 1) m' H') ∧ ∀ x H', J.yld i H x H' → g x (wipe σ vs) H' fun σ2 H2 => wipe σ2 vs = wipe σ vs ∧ tt σ2 H2 fun b H3 =>
    if b = true then te σ2 H3 fun y H4 => ∃ acc, H4 D = some (.lst acc) ∧ acc.length < sizeLine ∧ N (upd H4 D (.lst (acc ++ [y]))) else N H3)
theorem z_lc {wi : TI} {g : TG} {tt : TT} {te : TE} {vs : List Nat} (h : wi σ H fun J H1 => oLc J g tt te vs σ H1 Q) : tLc wi g tt te vs σ H Q := h
theorem z_iteTT {A B : Prop} (h : A) : if true = true then A else B := iteT h
theorem z_iteFF {A B : Prop} (h : B) : if false = true then A else B := iteF h
theorem z_iteNT {A B : Prop} (h : B) : if (!true) = true then A else B := h
theorem z_iteNF {A B : Prop} (h : A) : if (!false) = true then A else B := h
theorem z_iteS1 {α : Type} {v : α} {A B : Prop} (h : A) : if (some v).isSome = true then A else B := h
theorem z_iteS2 {α : Type} {v : α} {A B : Prop} (h : B) : if (!(some v).isSome) = true then A else B := h
theorem z_iteS3 {α : Type} {A B : Prop} (h : B) : if (none : Option α).isSome = true then A else B := h
theorem z_iteS4 {α : Type} {A B : Prop} (h : A) : if (!(none : Option α).isSome) = true then A else B := h
theorem z_lockAsg {te : TE} {i : Nat} (h : tLockE te σ H fun x H1 => gName i x σ H1 D.nx) : tLock (tAsg te (gName i)) D σ H := h
theorem z_sortedL {a : Addr} {ns : List Int} (h1 : H a = some (.lst (ns.map V.int))) (h : ∀ (ns' : List Int) p H1, ns'.Perm ns → ns'.Pairwise (· ≤ ·) → H p = none → Fr [] H H1 → H1 p = some (.lst (ns'.map V.int)) → Q (.ref p) H1) : rSortedU K [.ref a] H Q := ⟨a, ns, rfl, Or.inl (SqL.of h1), fun ns' p e1 e2 hp => h ns' p _ e1 e2 hp (Fr.new hp) upd_same⟩
theorem z_sortedD {a : Addr} {kvs : List (Key × V)} {ns : List Int} (h1 : H a = some (.dK kvs)) (h2 : kvs.map (·.1) = ns.map Sum.inl) (h : ∀ (ns' : List Int) p H1, ns'.Perm ns → ns'.Pairwise (· ≤ ·) → H p = none → Fr [] H H1 → H1 p = some (.lst (ns'.map V.int)) → Q (.ref p) H1) : rSortedU K [.ref a] H Q := ⟨a, ns, rfl, Or.inr ⟨kvs, Rd.of h1, h2⟩, fun ns' p e1 e2 hp => h ns' p _ e1 e2 hp (Fr.new hp) upd_same⟩
theorem z_start {N : List Str} {vs : List V} {t : TS} {σ : L2.St} (e : L2.start N vs = σ) (h : t D σ H) : t D (L2.start N vs) H := by rw [e]; exact h
theorem z_ok {A B : Prop} (a : A) (b : B) : A ∧ B := ⟨a, b⟩
theorem z_var0 {v : V} {l : L2.St} (h : Q v H) : tVar 0 (some v :: l) H Q := ⟨v, rfl, h⟩
theorem z_nm0 {y : Option V} {v : V} {l : L2.St} {Q : L2.St → Hp → Prop} (h : Q (some v :: l) H) : gName 0 v (y :: l) H Q := h
theorem z_var1 {x0 : Option V} {v : V} {l : L2.St} (h : Q v H) : tVar 1 (x0 :: some v :: l) H Q := ⟨v, rfl, h⟩
theorem z_nm1 {x0 : Option V} {y : Option V} {v : V} {l : L2.St} {Q : L2.St → Hp → Prop} (h : Q (x0 :: some v :: l) H) : gName 1 v (x0 :: y :: l) H Q := h
theorem z_var2 {x0 x1 : Option V} {v : V} {l : L2.St} (h : Q v H) : tVar 2 (x0 :: x1 :: some v :: l) H Q := ⟨v, rfl, h⟩
theorem z_nm2 {x0 x1 : Option V} {y : Option V} {v : V} {l : L2.St} {Q : L2.St → Hp → Prop} (h : Q (x0 :: x1 :: some v :: l) H) : gName 2 v (x0 :: x1 :: y :: l) H Q := h
theorem z_var3 {x0 x1 x2 : Option V} {v : V} {l : L2.St} (h : Q v H) : tVar 3 (x0 :: x1 :: x2 :: some v :: l) H Q := ⟨v, rfl, h⟩
theorem z_nm3 {x0 x1 x2 : Option V} {y : Option V} {v : V} {l : L2.St} {Q : L2.St → Hp → Prop} (h : Q (x0 :: x1 :: x2 :: some v :: l) H) : gName 3 v (x0 :: x1 :: x2 :: y :: l) H Q := h
theorem z_var4 {x0 x1 x2 x3 : Option V} {v : V} {l : L2.St} (h : Q v H) : tVar 4 (x0 :: x1 :: x2 :: x3 :: some v :: l) H Q := ⟨v, rfl, h⟩
theorem z_nm4 {x0 x1 x2 x3 : Option V} {y : Option V} {v : V} {l : L2.St} {Q : L2.St → Hp → Prop} (h : Q (x0 :: x1 :: x2 :: x3 :: some v :: l) H) : gName 4 v (x0 :: x1 :: x2 :: x3 :: y :: l) H Q := h
theorem z_var5 {x0 x1 x2 x3 x4 : Option V} {v : V} {l : L2.St} (h : Q v H) : tVar 5 (x0 :: x1 :: x2 :: x3 :: x4 :: some v :: l) H Q := ⟨v, rfl, h⟩
theorem z_nm5 {x0 x1 x2 x3 x4 : Option V} {y : Option V} {v : V} {l : L2.St} {Q : L2.St → Hp → Prop} (h : Q (x0 :: x1 :: x2 :: x3 :: x4 :: some v :: l) H) : gName 5 v (x0 :: x1 :: x2 :: x3 :: x4 :: y :: l) H Q := h
theorem z_var6 {x0 x1 x2 x3 x4 x5 : Option V} {v : V} {l : L2.St} (h : Q v H) : tVar 6 (x0 :: x1 :: x2 :: x3 :: x4 :: x5 :: some v :: l) H Q := ⟨v, rfl, h⟩
theorem z_nm6 {x0 x1 x2 x3 x4 x5 : Option V} {y : Option V} {v : V} {l : L2.St} {Q : L2.St → Hp → Prop} (h : Q (x0 :: x1 :: x2 :: x3 :: x4 :: x5 :: some v :: l) H) : gName 6 v (x0 :: x1 :: x2 :: x3 :: x4 :: x5 :: y :: l) H Q := h
theorem z_var7 {x0 x1 x2 x3 x4 x5 x6 : Option V} {v : V} {l : L2.St} (h : Q v H) : tVar 7 (x0 :: x1 :: x2 :: x3 :: x4 :: x5 :: x6 :: some v :: l) H Q := ⟨v, rfl, h⟩
theorem z_nm7 {x0 x1 x2 x3 x4 x5 x6 : Option V} {y : Option V} {v : V} {l : L2.St} {Q : L2.St → Hp → Prop} (h : Q (x0 :: x1 :: x2 :: x3 :: x4 :: x5 :: x6 :: some v :: l) H) : gName 7 v (x0 :: x1 :: x2 :: x3 :: x4 :: x5 :: x6 :: y :: l) H Q := h
theorem z_var8 {x0 x1 x2 x3 x4 x5 x6 x7 : Option V} {v : V} {l : L2.St} (h : Q v H) : tVar 8 (x0 :: x1 :: x2 :: x3 :: x4 :: x5 :: x6 :: x7 :: some v :: l) H Q := ⟨v, rfl, h⟩
theorem z_nm8 {x0 x1 x2 x3 x4 x5 x6 x7 : Option V} {y : Option V} {v : V} {l : L2.St} {Q : L2.St → Hp → Prop} (h : Q (x0 :: x1 :: x2 :: x3 :: x4 :: x5 :: x6 :: x7 :: some v :: l) H) : gName 8 v (x0 :: x1 :: x2 :: x3 :: x4 :: x5 :: x6 :: x7 :: y :: l) H Q := h
theorem z_var9 {x0 x1 x2 x3 x4 x5 x6 x7 x8 : Option V} {v : V} {l : L2.St} (h : Q v H) : tVar 9 (x0 :: x1 :: x2 :: x3 :: x4 :: x5 :: x6 :: x7 :: x8 :: some v :: l) H Q := ⟨v, rfl, h⟩
theorem z_nm9 {x0 x1 x2 x3 x4 x5 x6 x7 x8 : Option V} {y : Option V} {v : V} {l : L2.St} {Q : L2.St → Hp → Prop} (h : Q (x0 :: x1 :: x2 :: x3 :: x4 :: x5 :: x6 :: x7 :: x8 :: some v :: l) H) : gName 9 v (x0 :: x1 :: x2 :: x3 :: x4 :: x5 :: x6 :: x7 :: x8 :: y :: l) H Q := h
theorem z_var10 {x0 x1 x2 x3 x4 x5 x6 x7 x8 x9 : Option V} {v : V} {l : L2.St} (h : Q v H) : tVar 10 (x0 :: x1 :: x2 :: x3 :: x4 :: x5 :: x6 :: x7 :: x8 :: x9 :: some v :: l) H Q := ⟨v, rfl, h⟩
theorem z_nm10 {x0 x1 x2 x3 x4 x5 x6 x7 x8 x9 : Option V} {y : Option V} {v : V} {l : L2.St} {Q : L2.St → Hp → Prop} (h : Q (x0 :: x1 :: x2 :: x3 :: x4 :: x5 :: x6 :: x7 :: x8 :: x9 :: some v :: l) H) : gName 10 v (x0 :: x1 :: x2 :: x3 :: x4 :: x5 :: x6 :: x7 :: x8 :: x9 :: y :: l) H Q := h
theorem z_var11 {x0 x1 x2 x3 x4 x5 x6 x7 x8 x9 x10 : Option V} {v : V} {l : L2.St} (h : Q v H) : tVar 11 (x0 :: x1 :: x2 :: x3 :: x4 :: x5 :: x6 :: x7 :: x8 :: x9 :: x10 :: some v :: l) H Q := ⟨v, rfl, h⟩
theorem z_nm11 {x0 x1 x2 x3 x4 x5 x6 x7 x8 x9 x10 : Option V} {y : Option V} {v : V} {l : L2.St} {Q : L2.St → Hp → Prop} (h : Q (x0 :: x1 :: x2 :: x3 :: x4 :: x5 :: x6 :: x7 :: x8 :: x9 :: x10 :: some v :: l) H) : gName 11 v (x0 :: x1 :: x2 :: x3 :: x4 :: x5 :: x6 :: x7 :: x8 :: x9 :: x10 :: y :: l) H Q := h
theorem z_var12 {x0 x1 x2 x3 x4 x5 x6 x7 x8 x9 x10 x11 : Option V} {v : V} {l : L2.St} (h : Q v H) : tVar 12 (x0 :: x1 :: x2 :: x3 :: x4 :: x5 :: x6 :: x7 :: x8 :: x9 :: x10 :: x11 :: some v :: l) H Q := ⟨v, rfl, h⟩
theorem z_nm12 {x0 x1 x2 x3 x4 x5 x6 x7 x8 x9 x10 x11 : Option V} {y : Option V} {v : V} {l : L2.St} {Q : L2.St → Hp → Prop} (h : Q (x0 :: x1 :: x2 :: x3 :: x4 :: x5 :: x6 :: x7 :: x8 :: x9 :: x10 :: x11 :: some v :: l) H) : gName 12 v (x0 :: x1 :: x2 :: x3 :: x4 :: x5 :: x6 :: x7 :: x8 :: x9 :: x10 :: x11 :: y :: l) H Q := h
theorem z_var13 {x0 x1 x2 x3 x4 x5 x6 x7 x8 x9 x10 x11 x12 : Option V} {v : V} {l : L2.St} (h : Q v H) : tVar 13 (x0 :: x1 :: x2 :: x3 :: x4 :: x5 :: x6 :: x7 :: x8 :: x9 :: x10 :: x11 :: x12 :: some v :: l) H Q := ⟨v, rfl, h⟩
theorem z_nm13 {x0 x1 x2 x3 x4 x5 x6 x7 x8 x9 x10 x11 x12 : Option V} {y : Option V} {v : V} {l : L2.St} {Q : L2.St → Hp → Prop} (h : Q (x0 :: x1 :: x2 :: x3 :: x4 :: x5 :: x6 :: x7 :: x8 :: x9 :: x10 :: x11 :: x12 :: some v :: l) H) : gName 13 v (x0 :: x1 :: x2 :: x3 :: x4 :: x5 :: x6 :: x7 :: x8 :: x9 :: x10 :: x11 :: x12 :: y :: l) H Q := h
theorem z_var14 {x0 x1 x2 x3 x4 x5 x6 x7 x8 x9 x10 x11 x12 x13 : Option V} {v : V} {l : L2.St} (h : Q v H) : tVar 14 (x0 :: x1 :: x2 :: x3 :: x4 :: x5 :: x6 :: x7 :: x8 :: x9 :: x10 :: x11 :: x12 :: x13 :: some v :: l) H Q := ⟨v, rfl, h⟩
theorem z_nm14 {x0 x1 x2 x3 x4 x5 x6 x7 x8 x9 x10 x11 x12 x13 : Option V} {y : Option V} {v : V} {l : L2.St} {Q : L2.St → Hp → Prop} (h : Q (x0 :: x1 :: x2 :: x3 :: x4 :: x5 :: x6 :: x7 :: x8 :: x9 :: x10 :: x11 :: x12 :: x13 :: some v :: l) H) : gName 14 v (x0 :: x1 :: x2 :: x3 :: x4 :: x5 :: x6 :: x7 :: x8 :: x9 :: x10 :: x11 :: x12 :: x13 :: y :: l) H Q := h
theorem z_var15 {x0 x1 x2 x3 x4 x5 x6 x7 x8 x9 x10 x11 x12 x13 x14 : Option V} {v : V} {l : L2.St} (h : Q v H) : tVar 15 (x0 :: x1 :: x2 :: x3 :: x4 :: x5 :: x6 :: x7 :: x8 :: x9 :: x10 :: x11 :: x12 :: x13 :: x14 :: some v :: l) H Q := ⟨v, rfl, h⟩
theorem z_nm15 {x0 x1 x2 x3 x4 x5 x6 x7 x8 x9 x10 x11 x12 x13 x14 : Option V} {y : Option V} {v : V} {l : L2.St} {Q : L2.St → Hp → Prop} (h : Q (x0 :: x1 :: x2 :: x3 :: x4 :: x5 :: x6 :: x7 :: x8 :: x9 :: x10 :: x11 :: x12 :: x13 :: x14 :: some v :: l) H) : gName 15 v (x0 :: x1 :: x2 :: x3 :: x4 :: x5 :: x6 :: x7 :: x8 :: x9 :: x10 :: x11 :: x12 :: x13 :: x14 :: y :: l) H Q := h
theorem z_var16 {x0 x1 x2 x3 x4 x5 x6 x7 x8 x9 x10 x11 x12 x13 x14 x15 : Option V} {v : V} {l : L2.St} (h : Q v H) : tVar 16 (x0 :: x1 :: x2 :: x3 :: x4 :: x5 :: x6 :: x7 :: x8 :: x9 :: x10 :: x11 :: x12 :: x13 :: x14 :: x15 :: some v :: l) H Q := ⟨v, rfl, h⟩
theorem z_nm16 {x0 x1 x2 x3 x4 x5 x6 x7 x8 x9 x10 x11 x12 x13 x14 x15 : Option V} {y : Option V} {v : V} {l : L2.St} {Q : L2.St → Hp → Prop} (h : Q (x0 :: x1 :: x2 :: x3 :: x4 :: x5 :: x6 :: x7 :: x8 :: x9 :: x10 :: x11 :: x12 :: x13 :: x14 :: x15 :: some v :: l) H) : gName 16 v (x0 :: x1 :: x2 :: x3 :: x4 :: x5 :: x6 :: x7 :: x8 :: x9 :: x10 :: x11 :: x12 :: x13 :: x14 :: x15 :: y :: l) H Q := h
theorem z_var17 {x0 x1 x2 x3 x4 x5 x6 x7 x8 x9 x10 x11 x12 x13 x14 x15 x16 : Option V} {v : V} {l : L2.St} (h : Q v H) : tVar 17 (x0 :: x1 :: x2 :: x3 :: x4 :: x5 :: x6 :: x7 :: x8 :: x9 :: x10 :: x11 :: x12 :: x13 :: x14 :: x15 :: x16 :: some v :: l) H Q := ⟨v, rfl, h⟩
theorem z_nm17 {x0 x1 x2 x3 x4 x5 x6 x7 x8 x9 x10 x11 x12 x13 x14 x15 x16 : Option V} {y : Option V} {v : V} {l : L2.St} {Q : L2.St → Hp → Prop} (h : Q (x0 :: x1 :: x2 :: x3 :: x4 :: x5 :: x6 :: x7 :: x8 :: x9 :: x10 :: x11 :: x12 :: x13 :: x14 :: x15 :: x16 :: some v :: l) H) : gName 17 v (x0 :: x1 :: x2 :: x3 :: x4 :: x5 :: x6 :: x7 :: x8 :: x9 :: x10 :: x11 :: x12 :: x13 :: x14 :: x15 :: x16 :: y :: l) H Q := h
theorem z_var18 {x0 x1 x2 x3 x4 x5 x6 x7 x8 x9 x10 x11 x12 x13 x14 x15 x16 x17 : Option V} {v : V} {l : L2.St} (h : Q v H) : tVar 18 (x0 :: x1 :: x2 :: x3 :: x4 :: x5 :: x6 :: x7 :: x8 :: x9 :: x10 :: x11 :: x12 :: x13 :: x14 :: x15 :: x16 :: x17 :: some v :: l) H Q := ⟨v, rfl, h⟩
theorem z_nm18 {x0 x1 x2 x3 x4 x5 x6 x7 x8 x9 x10 x11 x12 x13 x14 x15 x16 x17 : Option V} {y : Option V} {v : V} {l : L2.St} {Q : L2.St → Hp → Prop} (h : Q (x0 :: x1 :: x2 :: x3 :: x4 :: x5 :: x6 :: x7 :: x8 :: x9 :: x10 :: x11 :: x12 :: x13 :: x14 :: x15 :: x16 :: x17 :: some v :: l) H) : gName 18 v (x0 :: x1 :: x2 :: x3 :: x4 :: x5 :: x6 :: x7 :: x8 :: x9 :: x10 :: x11 :: x12 :: x13 :: x14 :: x15 :: x16 :: x17 :: y :: l) H Q := h
theorem z_var19 {x0 x1 x2 x3 x4 x5 x6 x7 x8 x9 x10 x11 x12 x13 x14 x15 x16 x17 x18 : Option V} {v : V} {l : L2.St} (h : Q v H) : tVar 19 (x0 :: x1 :: x2 :: x3 :: x4 :: x5 :: x6 :: x7 :: x8 :: x9 :: x10 :: x11 :: x12 :: x13 :: x14 :: x15 :: x16 :: x17 :: x18 :: some v :: l) H Q := ⟨v, rfl, h⟩
theorem z_nm19 {x0 x1 x2 x3 x4 x5 x6 x7 x8 x9 x10 x11 x12 x13 x14 x15 x16 x17 x18 : Option V} {y : Option V} {v : V} {l : L2.St} {Q : L2.St → Hp → Prop} (h : Q (x0 :: x1 :: x2 :: x3 :: x4 :: x5 :: x6 :: x7 :: x8 :: x9 :: x10 :: x11 :: x12 :: x13 :: x14 :: x15 :: x16 :: x17 :: x18 :: some v :: l) H) : gName 19 v (x0 :: x1 :: x2 :: x3 :: x4 :: x5 :: x6 :: x7 :: x8 :: x9 :: x10 :: x11 :: x12 :: x13 :: x14 :: x15 :: x16 :: x17 :: x18 :: y :: l) H Q := h
theorem z_var20 {x0 x1 x2 x3 x4 x5 x6 x7 x8 x9 x10 x11 x12 x13 x14 x15 x16 x17 x18 x19 : Option V} {v : V} {l : L2.St} (h : Q v H) : tVar 20 (x0 :: x1 :: x2 :: x3 :: x4 :: x5 :: x6 :: x7 :: x8 :: x9 :: x10 :: x11 :: x12 :: x13 :: x14 :: x15 :: x16 :: x17 :: x18 :: x19 :: some v :: l) H Q := ⟨v, rfl, h⟩
theorem z_nm20 {x0 x1 x2 x3 x4 x5 x6 x7 x8 x9 x10 x11 x12 x13 x14 x15 x16 x17 x18 x19 : Option V} {y : Option V} {v : V} {l : L2.St} {Q : L2.St → Hp → Prop} (h : Q (x0 :: x1 :: x2 :: x3 :: x4 :: x5 :: x6 :: x7 :: x8 :: x9 :: x10 :: x11 :: x12 :: x13 :: x14 :: x15 :: x16 :: x17 :: x18 :: x19 :: some v :: l) H) : gName 20 v (x0 :: x1 :: x2 :: x3 :: x4 :: x5 :: x6 :: x7 :: x8 :: x9 :: x10 :: x11 :: x12 :: x13 :: x14 :: x15 :: x16 :: x17 :: x18 :: x19 :: y :: l) H Q := h
theorem z_var21 {x0 x1 x2 x3 x4 x5 x6 x7 x8 x9 x10 x11 x12 x13 x14 x15 x16 x17 x18 x19 x20 : Option V} {v : V} {l : L2.St} (h : Q v H) : tVar 21 (x0 :: x1 :: x2 :: x3 :: x4 :: x5 :: x6 :: x7 :: x8 :: x9 :: x10 :: x11 :: x12 :: x13 :: x14 :: x15 :: x16 :: x17 :: x18 :: x19 :: x20 :: some v :: l) H Q := ⟨v, rfl, h⟩
theorem z_nm21 {x0 x1 x2 x3 x4 x5 x6 x7 x8 x9 x10 x11 x12 x13 x14 x15 x16 x17 x18 x19 x20 : Option V} {y : Option V} {v : V} {l : L2.St} {Q : L2.St → Hp → Prop} (h : Q (x0 :: x1 :: x2 :: x3 :: x4 :: x5 :: x6 :: x7 :: x8 :: x9 :: x10 :: x11 :: x12 :: x13 :: x14 :: x15 :: x16 :: x17 :: x18 :: x19 :: x20 :: some v :: l) H) : gName 21 v (x0 :: x1 :: x2 :: x3 :: x4 :: x5 :: x6 :: x7 :: x8 :: x9 :: x10 :: x11 :: x12 :: x13 :: x14 :: x15 :: x16 :: x17 :: x18 :: x19 :: x20 :: y :: l) H Q := h
theorem z_var22 {x0 x1 x2 x3 x4 x5 x6 x7 x8 x9 x10 x11 x12 x13 x14 x15 x16 x17 x18 x19 x20 x21 : Option V} {v : V} {l : L2.St} (h : Q v H) : tVar 22 (x0 :: x1 :: x2 :: x3 :: x4 :: x5 :: x6 :: x7 :: x8 :: x9 :: x10 :: x11 :: x12 :: x13 :: x14 :: x15 :: x16 :: x17 :: x18 :: x19 :: x20 :: x21 :: some v :: l) H Q := ⟨v, rfl, h⟩
theorem z_nm22 {x0 x1 x2 x3 x4 x5 x6 x7 x8 x9 x10 x11 x12 x13 x14 x15 x16 x17 x18 x19 x20 x21 : Option V} {y : Option V} {v : V} {l : L2.St} {Q : L2.St → Hp → Prop} (h : Q (x0 :: x1 :: x2 :: x3 :: x4 :: x5 :: x6 :: x7 :: x8 :: x9 :: x10 :: x11 :: x12 :: x13 :: x14 :: x15 :: x16 :: x17 :: x18 :: x19 :: x20 :: x21 :: some v :: l) H) : gName 22 v (x0 :: x1 :: x2 :: x3 :: x4 :: x5 :: x6 :: x7 :: x8 :: x9 :: x10 :: x11 :: x12 :: x13 :: x14 :: x15 :: x16 :: x17 :: x18 :: x19 :: x20 :: x21 :: y :: l) H Q := h
theorem z_var23 {x0 x1 x2 x3 x4 x5 x6 x7 x8 x9 x10 x11 x12 x13 x14 x15 x16 x17 x18 x19 x20 x21 x22 : Option V} {v : V} {l : L2.St} (h : Q v H) : tVar 23 (x0 :: x1 :: x2 :: x3 :: x4 :: x5 :: x6 :: x7 :: x8 :: x9 :: x10 :: x11 :: x12 :: x13 :: x14 :: x15 :: x16 :: x17 :: x18 :: x19 :: x20 :: x21 :: x22 :: some v :: l) H Q := ⟨v, rfl, h⟩
theorem z_nm23 {x0 x1 x2 x3 x4 x5 x6 x7 x8 x9 x10 x11 x12 x13 x14 x15 x16 x17 x18 x19 x20 x21 x22 : Option V} {y : Option V} {v : V} {l : L2.St} {Q : L2.St → Hp → Prop} (h : Q (x0 :: x1 :: x2 :: x3 :: x4 :: x5 :: x6 :: x7 :: x8 :: x9 :: x10 :: x11 :: x12 :: x13 :: x14 :: x15 :: x16 :: x17 :: x18 :: x19 :: x20 :: x21 :: x22 :: some v :: l) H) : gName 23 v (x0 :: x1 :: x2 :: x3 :: x4 :: x5 :: x6 :: x7 :: x8 :: x9 :: x10 :: x11 :: x12 :: x13 :: x14 :: x15 :: x16 :: x17 :: x18 :: x19 :: x20 :: x21 :: x22 :: y :: l) H Q := h
/-! the same as instances: the step is found by its head -/
class Stp (goal : Prop) (sub : outParam Prop) : Prop where
  h : sub → goal
instance i_z_seq {t u : TS} : Stp (tSeq t u D σ H) (t { D with nx := u D } σ H) := ⟨z_seq⟩
instance i_z_next : Stp (tNext D σ H) (D.nx σ H) := ⟨z_next⟩
instance i_z_brk : Stp (tBreak D σ H) (D.bk σ H) := ⟨z_brk⟩
instance i_z_cont : Stp (tCont D σ H) (D.ct σ H) := ⟨z_cont⟩
instance i_z_asg {te : TE} {g : TG} : Stp (tAsg te g D σ H) (te σ H fun x H1 => g x σ H1 D.nx) := ⟨z_asg⟩
instance i_z_drop {te : TE} : Stp (tDrop te D σ H) (te σ H fun _ H1 => D.nx σ H1) := ⟨z_drop⟩
instance i_z_ret {te : TE} : Stp (tRet te D σ H) (te σ H D.rt) := ⟨z_ret⟩
instance i_z_retN : Stp (tRetN D σ H) (D.rt .non H) := ⟨z_retN⟩
instance i_z_ifs {c : TT} {t u : TS} : Stp (tIfS c t u D σ H) (c σ H fun b H1 => if b = true then t D σ H1 else u D σ H1) := ⟨z_ifs⟩
instance i_z_cut {t u : TS} : Stp (Evl.tCut t u D σ H) (∃ Mid : L2.St → Hp → Prop, t { D with nx := Mid } σ H ∧ ∀ σ' H', Mid σ' H' → u D σ' H') := ⟨z_cut⟩
instance i_z_flds {ta tv : TE} {f : Str} : Stp (sFld K ta tv f D σ H) (tv σ H fun y H1 => ta σ H1 fun x H2 => oFldS K f x y (D.nx σ) H2) := ⟨z_flds⟩
instance i_z_dput {td ty tv : TE} : Stp (sDPut td ty tv D σ H) (tv σ H fun v H1 => td σ H1 fun x H2 => ty σ H2 fun y H3 => oDPut x y v (D.nx σ) H3) := ⟨z_dput⟩
instance i_z_gcons {t : TG} {u : TGs} {v : V} {r : List V} {Q : L2.St → Hp → Prop} : Stp (gCons t u (v :: r) σ H Q) (t v σ H fun σ' H' => u r σ' H' Q) := ⟨z_gcons⟩
instance i_z_gnil {Q : L2.St → Hp → Prop} : Stp (gNil [] σ H Q) (Q σ H) := ⟨z_gnil⟩
instance i_z_gsub {to ti : TE} {t : TSet} {v : V} {Q : L2.St → Hp → Prop} : Stp (gSub to ti t v σ H Q) (to σ H fun o H1 => ti σ H1 fun i H2 => t o i v H2 fun H3 => Q σ H3) := ⟨z_gsub⟩
instance i_z_c {v : V} : Stp (tC v σ H Q) (Q v H) := ⟨z_c⟩
instance i_z_op {r : R2} {ta tb : TE} : Stp (tOp r ta tb σ H Q) (ta σ H fun x H1 => tb σ H1 fun y H2 => r x y H2 Q) := ⟨z_op⟩
instance i_z_un {r : V → Hp → VK → Prop} {ta : TE} : Stp (tUn r ta σ H Q) (ta σ H fun x H1 => r x H1 Q) := ⟨z_un⟩
instance i_z_tup {t : TA} : Stp (tTup t σ H Q) (t σ H fun xs H1 => oNew (.tup xs) xs.length H1 Q) := ⟨z_tup⟩
instance i_z_lst {t : TA} : Stp (tLst t σ H Q) (t σ H fun xs H1 => oNew (.lst xs) xs.length H1 Q) := ⟨z_lst⟩
instance i_z_dnew : Stp (tDNewK σ H Q) (∀ p H1, H p = none → Fr [] H H1 → H1 p = some (.dK []) → Q (.ref p) H1) := ⟨z_dnew⟩
instance i_z_nil {Q : List V → Hp → Prop} : Stp (tNil σ H Q) (Q [] H) := ⟨z_nil⟩
instance i_z_cons {ta : TE} {tr : TA} {Q : List V → Hp → Prop} : Stp (tCons ta tr σ H Q) (ta σ H fun x H1 => tr σ H1 fun xs H2 => Q (x :: xs) H2) := ⟨z_cons⟩
instance i_z_cb {r : List V → Hp → VK → Prop} {t : TA} : Stp (tCB r t σ H Q) (t σ H fun vs H1 => r vs H1 Q) := ⟨z_cb⟩
instance i_z_call {sp : Sp} {dvs : List V} {E : XK} {t : TA} : Stp (tCall sp dvs E t σ H Q) (t σ H fun vs H1 => sp (vs ++ dvs) H1 Q E) := ⟨z_call⟩
instance i_z_meth {C : Addr} {m : Str} {sp : Sp} {dvs : List V} {E : XK} {ta : TE} {t : TA} : Stp (tMeth C m sp dvs E ta t σ H Q) (ta σ H fun x H1 => oMeth C m x (fun H1 => t σ H1 fun vs H2 => sp (x :: (vs ++ dvs)) H2 Q E) H1) := ⟨z_meth⟩
instance i_z_make {C : Addr} {sp : Sp} {dvs : List V} {E : XK} {t : TA} : Stp (tMake C sp dvs E t σ H Q) (t σ H fun vs H1 => ∀ x dx, H1 x = none → H1 dx = none → dx ≠ x → sp (.ref x :: (vs ++ dvs)) (upd (upd H1 dx (.own x)) x (.ins C dx [])) (fun v H2 => v = .non ∧ Q (.ref x) H2) E) := ⟨z_make⟩
instance i_z_fld {ta : TE} {f : Str} : Stp (tFld K ta f σ H Q) (ta σ H fun x H1 => oFld K f x H1 Q) := ⟨z_fld⟩
instance i_z_test {t : TE} {Q : Bool → Hp → Prop} : Stp (tTest t σ H Q) (t σ H fun x H' => oBl x H' Q) := ⟨z_test⟩
instance i_z_tB {t : TE} {Q : Bool → Hp → Prop} : Stp (tB t σ H Q) (t σ H fun x H' => oBl x H' Q) := ⟨z_tB⟩
instance i_z_bl {k : Bool} {Q : Bool → Hp → Prop} : Stp (oBl (.bl k) H Q) (Q k H) := ⟨z_bl⟩
instance i_z_truK {ta : TE} {Q : Bool → Hp → Prop} : Stp (tTruK K ta σ H Q) (ta σ H fun x H' => oTru K x H' Q) := ⟨z_truK⟩
instance i_z_truI {k : Bool → Prop} {x : V} : Stp (∃ b, TruV K x H b ∧ k b) (oTru K x H (fun b _ => k b)) := ⟨z_truI⟩
instance i_z_notT {ta : TE} : Stp (tNotT K ta σ H Q) (ta σ H fun x H' => oTru K x H' fun k H' => Q (.bl (!k)) H') := ⟨z_notT⟩
instance i_z_truB {k : Bool} {Q : Bool → Hp → Prop} : Stp (oTru K (.bl k) H Q) (Q k H) := ⟨z_truB⟩
instance i_z_truN {Q : Bool → Hp → Prop} : Stp (oTru K .non H Q) (Q false H) := ⟨z_truN⟩
instance i_z_truZ {i : Int} {Q : Bool → Hp → Prop} : Stp (oTru K (.int i) H Q) (Q (i != 0) H) := ⟨z_truZ⟩
instance i_z_tand {t u : TT} {Q : Bool → Hp → Prop} : Stp (tAnd t u σ H Q) (t σ H fun c H1 => if c = true then u σ H1 Q else Q false H1) := ⟨z_tand⟩
instance i_z_tor {t u : TT} {Q : Bool → Hp → Prop} : Stp (tOr t u σ H Q) (t σ H fun c H1 => if c = true then Q true H1 else u σ H1 Q) := ⟨z_tor⟩
instance i_z_tnot {t : TT} {Q : Bool → Hp → Prop} : Stp (tNot t σ H Q) (t σ H fun c H1 => Q (!c) H1) := ⟨z_tnot⟩
instance i_z_yes {Q : Bool → Hp → Prop} : Stp (tYes σ H Q) (Q true H) := ⟨z_yes⟩
instance i_z_andV {ta tb : TE} : Stp (tAndV ta tb σ H Q) (ta σ H fun x H1 => oBl x H1 fun c H1 => if c = true then tb σ H1 Q else Q (.bl false) H1) := ⟨z_andV⟩
instance i_z_orV {ta tb : TE} : Stp (tOrV ta tb σ H Q) (ta σ H fun x H1 => oBl x H1 fun c H1 => if c = true then Q (.bl true) H1 else tb σ H1 Q) := ⟨z_orV⟩
instance i_z_tIf {t : TT} {ta tb : TE} : Stp (tIf t ta tb σ H Q) (t σ H fun c H1 => if c = true then ta σ H1 Q else tb σ H1 Q) := ⟨z_tIf⟩
instance i_z_addI {i j : Int} : Stp (rAddU K (.int i) (.int j) H Q) (Q (.int (i + j)) H) := ⟨z_addI⟩
instance i_z_rI0 {g : Int → Int → V} {i j : Int} : Stp (rI0 g (.int i) (.int j) H Q) (Q (g i j) H) := ⟨z_rI0⟩
instance i_z_rU {g : Int → V} {i : Int} : Stp (rU g (.int i) H Q) (Q (g i) H) := ⟨z_rU⟩
instance i_z_ordI {f : Int → Int → Bool} {g : List Nat → List Nat → Bool} {i j : Int} : Stp (rOrd f g (.int i) (.int j) H Q) (Q (.bl (f i j)) H) := ⟨z_ordI⟩
instance i_z_ordS {f : Int → Int → Bool} {g : List Nat → List Nat → Bool} {i j : Str} : Stp (rOrd f g (.str i) (.str j) H Q) (Q (.bl (g i.cps.toList j.cps.toList)) H) := ⟨z_ordS⟩
instance i_z_eqI {i j : Int} : Stp (rEqU K id (.int i) (.int j) H Q) (Q (.bl (decide (i = j))) H) := ⟨z_eqI⟩
instance i_z_neI {i j : Int} : Stp (rEqU K (!·) (.int i) (.int j) H Q) (Q (.bl (!decide (i = j))) H) := ⟨z_neI⟩
instance i_z_eqS {i j : Str} : Stp (rEqU K id (.str i) (.str j) H Q) (Q (.bl (decide (i = j))) H) := ⟨z_eqS⟩
instance i_z_neS {i j : Str} : Stp (rEqU K (!·) (.str i) (.str j) H Q) (Q (.bl (!decide (i = j))) H) := ⟨z_neS⟩
instance i_z_isNP {x : V} : Stp (rIsU id x .non H Q) (Q (.bl ((decide (x = .non)))) H) := ⟨z_isNP⟩
instance i_z_isNQ {x : V} : Stp (rIsU (!·) x .non H Q) (Q (.bl (!(decide (x = .non)))) H) := ⟨z_isNQ⟩
instance i_z_isNiP {i : Int} : Stp (rIsU id (.int i) .non H Q) (Q (.bl false) H) := ⟨z_isNiP⟩
instance i_z_isNiN {i : Int} : Stp (rIsU (!·) (.int i) .non H Q) (Q (.bl true) H) := ⟨z_isNiN⟩
instance i_z_isNsP {i : Str} : Stp (rIsU id (.str i) .non H Q) (Q (.bl false) H) := ⟨z_isNsP⟩
instance i_z_isNsN {i : Str} : Stp (rIsU (!·) (.str i) .non H Q) (Q (.bl true) H) := ⟨z_isNsN⟩
instance i_z_isNrP {a : Addr} : Stp (rIsU id (.ref a) .non H Q) (Q (.bl false) H) := ⟨z_isNrP⟩
instance i_z_isNrN {a : Addr} : Stp (rIsU (!·) (.ref a) .non H Q) (Q (.bl true) H) := ⟨z_isNrN⟩
instance i_z_isNbP {b : Bool} : Stp (rIsU id (.bl b) .non H Q) (Q (.bl false) H) := ⟨z_isNbP⟩
instance i_z_isNbN {b : Bool} : Stp (rIsU (!·) (.bl b) .non H Q) (Q (.bl true) H) := ⟨z_isNbN⟩
instance i_z_isNnP : Stp (rIsU id .non .non H Q) (Q (.bl true) H) := ⟨z_isNnP⟩
instance i_z_isNnN : Stp (rIsU (!·) .non .non H Q) (Q (.bl false) H) := ⟨z_isNnN⟩
instance i_z_isBP {x : V} {b : Bool} : Stp (rIsU id x (.bl b) H Q) (Q (.bl ((decide (x = .bl b)))) H) := ⟨z_isBP⟩
instance i_z_isBQ {x : V} {b : Bool} : Stp (rIsU (!·) x (.bl b) H Q) (Q (.bl (!(decide (x = .bl b)))) H) := ⟨z_isBQ⟩
instance i_z_sl {r : V → Option Int → Option Int → Hp → VK → Prop} {te : TE} {tl th : TO} : Stp (tSl r te tl th σ H Q) (te σ H fun x H1 => tl σ H1 fun l H2 => th σ H2 fun u H3 => r x l u H3 Q) := ⟨z_sl⟩
instance i_z_nopart {Q : Option Int → Hp → Prop} : Stp (tNoPart σ H Q) (Q none H) := ⟨z_nopart⟩
instance i_z_part {t : TE} {Q : Option Int → Hp → Prop} : Stp (tPart t σ H Q) (t σ H fun x H1 => oPart x H1 Q) := ⟨z_part⟩
instance i_z_part1 {i : Int} {Q : Option Int → Hp → Prop} : Stp (oPart (.int i) H Q) (Q (some i) H) := ⟨z_part1⟩
instance i_z_intI {i : Int} : Stp (rIntU [.int i] H Q) (Q (.int i) H) := ⟨z_intI⟩
instance i_z_intB {k : Bool} : Stp (rIntU [.bl k] H Q) (Q (.int (if k then 1 else 0)) H) := ⟨z_intB⟩
instance i_z_isi_int_int {i : Int} : Stp (rIsi K [.int i, .ty "int"] H Q) (Q (.bl true) H) := ⟨z_isi_int_int⟩
instance i_z_isi_int_bool {i : Int} : Stp (rIsi K [.int i, .ty "bool"] H Q) (Q (.bl false) H) := ⟨z_isi_int_bool⟩
instance i_z_isi_int_str {i : Int} : Stp (rIsi K [.int i, .ty "str"] H Q) (Q (.bl false) H) := ⟨z_isi_int_str⟩
instance i_z_isi_int_list {i : Int} : Stp (rIsi K [.int i, .ty "list"] H Q) (Q (.bl false) H) := ⟨z_isi_int_list⟩
instance i_z_isi_int_tuple {i : Int} : Stp (rIsi K [.int i, .ty "tuple"] H Q) (Q (.bl false) H) := ⟨z_isi_int_tuple⟩
instance i_z_isi_int_dict {i : Int} : Stp (rIsi K [.int i, .ty "dict"] H Q) (Q (.bl false) H) := ⟨z_isi_int_dict⟩
instance i_z_isi_str_int {i : Str} : Stp (rIsi K [.str i, .ty "int"] H Q) (Q (.bl false) H) := ⟨z_isi_str_int⟩
instance i_z_isi_str_bool {i : Str} : Stp (rIsi K [.str i, .ty "bool"] H Q) (Q (.bl false) H) := ⟨z_isi_str_bool⟩
instance i_z_isi_str_str {i : Str} : Stp (rIsi K [.str i, .ty "str"] H Q) (Q (.bl true) H) := ⟨z_isi_str_str⟩
instance i_z_isi_str_list {i : Str} : Stp (rIsi K [.str i, .ty "list"] H Q) (Q (.bl false) H) := ⟨z_isi_str_list⟩
instance i_z_isi_str_tuple {i : Str} : Stp (rIsi K [.str i, .ty "tuple"] H Q) (Q (.bl false) H) := ⟨z_isi_str_tuple⟩
instance i_z_isi_str_dict {i : Str} : Stp (rIsi K [.str i, .ty "dict"] H Q) (Q (.bl false) H) := ⟨z_isi_str_dict⟩
instance i_z_isi_bool_int {i : Bool} : Stp (rIsi K [.bl i, .ty "int"] H Q) (Q (.bl true) H) := ⟨z_isi_bool_int⟩
instance i_z_isi_bool_bool {i : Bool} : Stp (rIsi K [.bl i, .ty "bool"] H Q) (Q (.bl true) H) := ⟨z_isi_bool_bool⟩
instance i_z_isi_bool_str {i : Bool} : Stp (rIsi K [.bl i, .ty "str"] H Q) (Q (.bl false) H) := ⟨z_isi_bool_str⟩
instance i_z_isi_bool_list {i : Bool} : Stp (rIsi K [.bl i, .ty "list"] H Q) (Q (.bl false) H) := ⟨z_isi_bool_list⟩
instance i_z_isi_bool_tuple {i : Bool} : Stp (rIsi K [.bl i, .ty "tuple"] H Q) (Q (.bl false) H) := ⟨z_isi_bool_tuple⟩
instance i_z_isi_bool_dict {i : Bool} : Stp (rIsi K [.bl i, .ty "dict"] H Q) (Q (.bl false) H) := ⟨z_isi_bool_dict⟩
instance i_z_bm0 {T : String} {r : V → List V → Hp → VK → Prop} {to : TE} : Stp (tBM0 K T r to σ H Q) (to σ H fun x H1 => oBM K T x (fun H1 => r x [] H1 Q) H1) := ⟨z_bm0⟩
instance i_z_bm {T : String} {r : V → List V → Hp → VK → Prop} {to : TE} {t : TA} : Stp (tBM K T r to t σ H Q) (to σ H fun x H1 => oBM K T x (fun H1 => t σ H1 fun xs H2 => r x xs H2 Q) H1) := ⟨z_bm⟩
instance i_z_bmS {z : Str} {R : Hp → Prop} : Stp (oBM K "str" (.str z) R H) (R H) := ⟨z_bmS⟩
instance i_z_for {wi : TI} {g : TG} {tb : TS} : Stp (tFor wi g tb D σ H) (wi σ H fun J H1 => ∃ W : Nat → Nat → L2.St → Hp → Prop, (∃ m, W 0 m σ H1) ∧ ∀ i m σ H, W i m σ H → (J.stop i H ∧ D.nx σ H) ∨ (J.go i H ∧ ∃ N : L2.St → Hp → Prop, (∀ σ' H', N σ' H' → ∃ m', m' < m ∧ W (i + 1) m' σ' H') ∧ ∀ x H', J.yld i H x H' → g x σ H' fun σ2 H2 => tb { D with nx := N, ct := N, bk := D.nx } σ2 H2)) := ⟨z_for⟩
instance i_z_iList {tl : TE} {R : It → Hp → Prop} : Stp (iList K tl σ H R) (tl σ H fun x H1 => oIter K x H1 R) := ⟨z_iList⟩
instance i_z_iRng1 {ta : TA} {R : It → Hp → Prop} : Stp (iRng1 ta σ H R) (ta σ H fun vs H1 => oRng1 vs H1 R) := ⟨z_iRng1⟩
instance i_z_iRng2 {ta : TA} {R : It → Hp → Prop} : Stp (iRng2 ta σ H R) (ta σ H fun vs H1 => oRng2 vs H1 R) := ⟨z_iRng2⟩
instance i_z_lc {wi : TI} {g : TG} {tt : TT} {te : TE} {vs : List Nat} : Stp (tLc wi g tt te vs σ H Q) (wi σ H fun J H1 => oLc J g tt te vs σ H1 Q) := ⟨z_lc⟩
instance i_z_iteTT {A B : Prop} : Stp (if true = true then A else B) (A) := ⟨z_iteTT⟩
instance i_z_iteFF {A B : Prop} : Stp (if false = true then A else B) (B) := ⟨z_iteFF⟩
instance i_z_iteNT {A B : Prop} : Stp (if (!true) = true then A else B) (B) := ⟨z_iteNT⟩
instance i_z_iteNF {A B : Prop} : Stp (if (!false) = true then A else B) (A) := ⟨z_iteNF⟩
instance i_z_iteS1 {α : Type} {v : α} {A B : Prop} : Stp (if (some v).isSome = true then A else B) (A) := ⟨z_iteS1⟩
instance i_z_iteS2 {α : Type} {v : α} {A B : Prop} : Stp (if (!(some v).isSome) = true then A else B) (B) := ⟨z_iteS2⟩
instance i_z_iteS3 {α : Type} {A B : Prop} : Stp (if (none : Option α).isSome = true then A else B) (B) := ⟨z_iteS3⟩
instance i_z_iteS4 {α : Type} {A B : Prop} : Stp (if (!(none : Option α).isSome) = true then A else B) (A) := ⟨z_iteS4⟩
instance i_z_lockAsg {te : TE} {i : Nat} : Stp (tLock (tAsg te (gName i)) D σ H) (tLockE te σ H fun x H1 => gName i x σ H1 D.nx) := ⟨z_lockAsg⟩
instance i_z_var0 {v : V} {l : L2.St} : Stp (tVar 0 (some v :: l) H Q) (Q v H) := ⟨z_var0⟩
instance i_z_nm0 {y : Option V} {v : V} {l : L2.St} {Q : L2.St → Hp → Prop} : Stp (gName 0 v (y :: l) H Q) (Q (some v :: l) H) := ⟨z_nm0⟩
instance i_z_var1 {x0 : Option V} {v : V} {l : L2.St} : Stp (tVar 1 (x0 :: some v :: l) H Q) (Q v H) := ⟨z_var1⟩
instance i_z_nm1 {x0 : Option V} {y : Option V} {v : V} {l : L2.St} {Q : L2.St → Hp → Prop} : Stp (gName 1 v (x0 :: y :: l) H Q) (Q (x0 :: some v :: l) H) := ⟨z_nm1⟩
instance i_z_var2 {x0 x1 : Option V} {v : V} {l : L2.St} : Stp (tVar 2 (x0 :: x1 :: some v :: l) H Q) (Q v H) := ⟨z_var2⟩
instance i_z_nm2 {x0 x1 : Option V} {y : Option V} {v : V} {l : L2.St} {Q : L2.St → Hp → Prop} : Stp (gName 2 v (x0 :: x1 :: y :: l) H Q) (Q (x0 :: x1 :: some v :: l) H) := ⟨z_nm2⟩
instance i_z_var3 {x0 x1 x2 : Option V} {v : V} {l : L2.St} : Stp (tVar 3 (x0 :: x1 :: x2 :: some v :: l) H Q) (Q v H) := ⟨z_var3⟩
instance i_z_nm3 {x0 x1 x2 : Option V} {y : Option V} {v : V} {l : L2.St} {Q : L2.St → Hp → Prop} : Stp (gName 3 v (x0 :: x1 :: x2 :: y :: l) H Q) (Q (x0 :: x1 :: x2 :: some v :: l) H) := ⟨z_nm3⟩
instance i_z_var4 {x0 x1 x2 x3 : Option V} {v : V} {l : L2.St} : Stp (tVar 4 (x0 :: x1 :: x2 :: x3 :: some v :: l) H Q) (Q v H) := ⟨z_var4⟩
instance i_z_nm4 {x0 x1 x2 x3 : Option V} {y : Option V} {v : V} {l : L2.St} {Q : L2.St → Hp → Prop} : Stp (gName 4 v (x0 :: x1 :: x2 :: x3 :: y :: l) H Q) (Q (x0 :: x1 :: x2 :: x3 :: some v :: l) H) := ⟨z_nm4⟩
instance i_z_var5 {x0 x1 x2 x3 x4 : Option V} {v : V} {l : L2.St} : Stp (tVar 5 (x0 :: x1 :: x2 :: x3 :: x4 :: some v :: l) H Q) (Q v H) := ⟨z_var5⟩
instance i_z_nm5 {x0 x1 x2 x3 x4 : Option V} {y : Option V} {v : V} {l : L2.St} {Q : L2.St → Hp → Prop} : Stp (gName 5 v (x0 :: x1 :: x2 :: x3 :: x4 :: y :: l) H Q) (Q (x0 :: x1 :: x2 :: x3 :: x4 :: some v :: l) H) := ⟨z_nm5⟩
instance i_z_var6 {x0 x1 x2 x3 x4 x5 : Option V} {v : V} {l : L2.St} : Stp (tVar 6 (x0 :: x1 :: x2 :: x3 :: x4 :: x5 :: some v :: l) H Q) (Q v H) := ⟨z_var6⟩
instance i_z_nm6 {x0 x1 x2 x3 x4 x5 : Option V} {y : Option V} {v : V} {l : L2.St} {Q : L2.St → Hp → Prop} : Stp (gName 6 v (x0 :: x1 :: x2 :: x3 :: x4 :: x5 :: y :: l) H Q) (Q (x0 :: x1 :: x2 :: x3 :: x4 :: x5 :: some v :: l) H) := ⟨z_nm6⟩
instance i_z_var7 {x0 x1 x2 x3 x4 x5 x6 : Option V} {v : V} {l : L2.St} : Stp (tVar 7 (x0 :: x1 :: x2 :: x3 :: x4 :: x5 :: x6 :: some v :: l) H Q) (Q v H) := ⟨z_var7⟩
instance i_z_nm7 {x0 x1 x2 x3 x4 x5 x6 : Option V} {y : Option V} {v : V} {l : L2.St} {Q : L2.St → Hp → Prop} : Stp (gName 7 v (x0 :: x1 :: x2 :: x3 :: x4 :: x5 :: x6 :: y :: l) H Q) (Q (x0 :: x1 :: x2 :: x3 :: x4 :: x5 :: x6 :: some v :: l) H) := ⟨z_nm7⟩
instance i_z_var8 {x0 x1 x2 x3 x4 x5 x6 x7 : Option V} {v : V} {l : L2.St} : Stp (tVar 8 (x0 :: x1 :: x2 :: x3 :: x4 :: x5 :: x6 :: x7 :: some v :: l) H Q) (Q v H) := ⟨z_var8⟩
instance i_z_nm8 {x0 x1 x2 x3 x4 x5 x6 x7 : Option V} {y : Option V} {v : V} {l : L2.St} {Q : L2.St → Hp → Prop} : Stp (gName 8 v (x0 :: x1 :: x2 :: x3 :: x4 :: x5 :: x6 :: x7 :: y :: l) H Q) (Q (x0 :: x1 :: x2 :: x3 :: x4 :: x5 :: x6 :: x7 :: some v :: l) H) := ⟨z_nm8⟩
instance i_z_var9 {x0 x1 x2 x3 x4 x5 x6 x7 x8 : Option V} {v : V} {l : L2.St} : Stp (tVar 9 (x0 :: x1 :: x2 :: x3 :: x4 :: x5 :: x6 :: x7 :: x8 :: some v :: l) H Q) (Q v H) := ⟨z_var9⟩
instance i_z_nm9 {x0 x1 x2 x3 x4 x5 x6 x7 x8 : Option V} {y : Option V} {v : V} {l : L2.St} {Q : L2.St → Hp → Prop} : Stp (gName 9 v (x0 :: x1 :: x2 :: x3 :: x4 :: x5 :: x6 :: x7 :: x8 :: y :: l) H Q) (Q (x0 :: x1 :: x2 :: x3 :: x4 :: x5 :: x6 :: x7 :: x8 :: some v :: l) H) := ⟨z_nm9⟩
instance i_z_var10 {x0 x1 x2 x3 x4 x5 x6 x7 x8 x9 : Option V} {v : V} {l : L2.St} : Stp (tVar 10 (x0 :: x1 :: x2 :: x3 :: x4 :: x5 :: x6 :: x7 :: x8 :: x9 :: some v :: l) H Q) (Q v H) := ⟨z_var10⟩
instance i_z_nm10 {x0 x1 x2 x3 x4 x5 x6 x7 x8 x9 : Option V} {y : Option V} {v : V} {l : L2.St} {Q : L2.St → Hp → Prop} : Stp (gName 10 v (x0 :: x1 :: x2 :: x3 :: x4 :: x5 :: x6 :: x7 :: x8 :: x9 :: y :: l) H Q) (Q (x0 :: x1 :: x2 :: x3 :: x4 :: x5 :: x6 :: x7 :: x8 :: x9 :: some v :: l) H) := ⟨z_nm10⟩
instance i_z_var11 {x0 x1 x2 x3 x4 x5 x6 x7 x8 x9 x10 : Option V} {v : V} {l : L2.St} : Stp (tVar 11 (x0 :: x1 :: x2 :: x3 :: x4 :: x5 :: x6 :: x7 :: x8 :: x9 :: x10 :: some v :: l) H Q) (Q v H) := ⟨z_var11⟩
instance i_z_nm11 {x0 x1 x2 x3 x4 x5 x6 x7 x8 x9 x10 : Option V} {y : Option V} {v : V} {l : L2.St} {Q : L2.St → Hp → Prop} : Stp (gName 11 v (x0 :: x1 :: x2 :: x3 :: x4 :: x5 :: x6 :: x7 :: x8 :: x9 :: x10 :: y :: l) H Q) (Q (x0 :: x1 :: x2 :: x3 :: x4 :: x5 :: x6 :: x7 :: x8 :: x9 :: x10 :: some v :: l) H) := ⟨z_nm11⟩
instance i_z_var12 {x0 x1 x2 x3 x4 x5 x6 x7 x8 x9 x10 x11 : Option V} {v : V} {l : L2.St} : Stp (tVar 12 (x0 :: x1 :: x2 :: x3 :: x4 :: x5 :: x6 :: x7 :: x8 :: x9 :: x10 :: x11 :: some v :: l) H Q) (Q v H) := ⟨z_var12⟩
instance i_z_nm12 {x0 x1 x2 x3 x4 x5 x6 x7 x8 x9 x10 x11 : Option V} {y : Option V} {v : V} {l : L2.St} {Q : L2.St → Hp → Prop} : Stp (gName 12 v (x0 :: x1 :: x2 :: x3 :: x4 :: x5 :: x6 :: x7 :: x8 :: x9 :: x10 :: x11 :: y :: l) H Q) (Q (x0 :: x1 :: x2 :: x3 :: x4 :: x5 :: x6 :: x7 :: x8 :: x9 :: x10 :: x11 :: some v :: l) H) := ⟨z_nm12⟩
instance i_z_var13 {x0 x1 x2 x3 x4 x5 x6 x7 x8 x9 x10 x11 x12 : Option V} {v : V} {l : L2.St} : Stp (tVar 13 (x0 :: x1 :: x2 :: x3 :: x4 :: x5 :: x6 :: x7 :: x8 :: x9 :: x10 :: x11 :: x12 :: some v :: l) H Q) (Q v H) := ⟨z_var13⟩
instance i_z_nm13 {x0 x1 x2 x3 x4 x5 x6 x7 x8 x9 x10 x11 x12 : Option V} {y : Option V} {v : V} {l : L2.St} {Q : L2.St → Hp → Prop} : Stp (gName 13 v (x0 :: x1 :: x2 :: x3 :: x4 :: x5 :: x6 :: x7 :: x8 :: x9 :: x10 :: x11 :: x12 :: y :: l) H Q) (Q (x0 :: x1 :: x2 :: x3 :: x4 :: x5 :: x6 :: x7 :: x8 :: x9 :: x10 :: x11 :: x12 :: some v :: l) H) := ⟨z_nm13⟩
instance i_z_var14 {x0 x1 x2 x3 x4 x5 x6 x7 x8 x9 x10 x11 x12 x13 : Option V} {v : V} {l : L2.St} : Stp (tVar 14 (x0 :: x1 :: x2 :: x3 :: x4 :: x5 :: x6 :: x7 :: x8 :: x9 :: x10 :: x11 :: x12 :: x13 :: some v :: l) H Q) (Q v H) := ⟨z_var14⟩
instance i_z_nm14 {x0 x1 x2 x3 x4 x5 x6 x7 x8 x9 x10 x11 x12 x13 : Option V} {y : Option V} {v : V} {l : L2.St} {Q : L2.St → Hp → Prop} : Stp (gName 14 v (x0 :: x1 :: x2 :: x3 :: x4 :: x5 :: x6 :: x7 :: x8 :: x9 :: x10 :: x11 :: x12 :: x13 :: y :: l) H Q) (Q (x0 :: x1 :: x2 :: x3 :: x4 :: x5 :: x6 :: x7 :: x8 :: x9 :: x10 :: x11 :: x12 :: x13 :: some v :: l) H) := ⟨z_nm14⟩
instance i_z_var15 {x0 x1 x2 x3 x4 x5 x6 x7 x8 x9 x10 x11 x12 x13 x14 : Option V} {v : V} {l : L2.St} : Stp (tVar 15 (x0 :: x1 :: x2 :: x3 :: x4 :: x5 :: x6 :: x7 :: x8 :: x9 :: x10 :: x11 :: x12 :: x13 :: x14 :: some v :: l) H Q) (Q v H) := ⟨z_var15⟩
instance i_z_nm15 {x0 x1 x2 x3 x4 x5 x6 x7 x8 x9 x10 x11 x12 x13 x14 : Option V} {y : Option V} {v : V} {l : L2.St} {Q : L2.St → Hp → Prop} : Stp (gName 15 v (x0 :: x1 :: x2 :: x3 :: x4 :: x5 :: x6 :: x7 :: x8 :: x9 :: x10 :: x11 :: x12 :: x13 :: x14 :: y :: l) H Q) (Q (x0 :: x1 :: x2 :: x3 :: x4 :: x5 :: x6 :: x7 :: x8 :: x9 :: x10 :: x11 :: x12 :: x13 :: x14 :: some v :: l) H) := ⟨z_nm15⟩
instance i_z_var16 {x0 x1 x2 x3 x4 x5 x6 x7 x8 x9 x10 x11 x12 x13 x14 x15 : Option V} {v : V} {l : L2.St} : Stp (tVar 16 (x0 :: x1 :: x2 :: x3 :: x4 :: x5 :: x6 :: x7 :: x8 :: x9 :: x10 :: x11 :: x12 :: x13 :: x14 :: x15 :: some v :: l) H Q) (Q v H) := ⟨z_var16⟩
instance i_z_nm16 {x0 x1 x2 x3 x4 x5 x6 x7 x8 x9 x10 x11 x12 x13 x14 x15 : Option V} {y : Option V} {v : V} {l : L2.St} {Q : L2.St → Hp → Prop} : Stp (gName 16 v (x0 :: x1 :: x2 :: x3 :: x4 :: x5 :: x6 :: x7 :: x8 :: x9 :: x10 :: x11 :: x12 :: x13 :: x14 :: x15 :: y :: l) H Q) (Q (x0 :: x1 :: x2 :: x3 :: x4 :: x5 :: x6 :: x7 :: x8 :: x9 :: x10 :: x11 :: x12 :: x13 :: x14 :: x15 :: some v :: l) H) := ⟨z_nm16⟩
instance i_z_var17 {x0 x1 x2 x3 x4 x5 x6 x7 x8 x9 x10 x11 x12 x13 x14 x15 x16 : Option V} {v : V} {l : L2.St} : Stp (tVar 17 (x0 :: x1 :: x2 :: x3 :: x4 :: x5 :: x6 :: x7 :: x8 :: x9 :: x10 :: x11 :: x12 :: x13 :: x14 :: x15 :: x16 :: some v :: l) H Q) (Q v H) := ⟨z_var17⟩
instance i_z_nm17 {x0 x1 x2 x3 x4 x5 x6 x7 x8 x9 x10 x11 x12 x13 x14 x15 x16 : Option V} {y : Option V} {v : V} {l : L2.St} {Q : L2.St → Hp → Prop} : Stp (gName 17 v (x0 :: x1 :: x2 :: x3 :: x4 :: x5 :: x6 :: x7 :: x8 :: x9 :: x10 :: x11 :: x12 :: x13 :: x14 :: x15 :: x16 :: y :: l) H Q) (Q (x0 :: x1 :: x2 :: x3 :: x4 :: x5 :: x6 :: x7 :: x8 :: x9 :: x10 :: x11 :: x12 :: x13 :: x14 :: x15 :: x16 :: some v :: l) H) := ⟨z_nm17⟩
instance i_z_var18 {x0 x1 x2 x3 x4 x5 x6 x7 x8 x9 x10 x11 x12 x13 x14 x15 x16 x17 : Option V} {v : V} {l : L2.St} : Stp (tVar 18 (x0 :: x1 :: x2 :: x3 :: x4 :: x5 :: x6 :: x7 :: x8 :: x9 :: x10 :: x11 :: x12 :: x13 :: x14 :: x15 :: x16 :: x17 :: some v :: l) H Q) (Q v H) := ⟨z_var18⟩
instance i_z_nm18 {x0 x1 x2 x3 x4 x5 x6 x7 x8 x9 x10 x11 x12 x13 x14 x15 x16 x17 : Option V} {y : Option V} {v : V} {l : L2.St} {Q : L2.St → Hp → Prop} : Stp (gName 18 v (x0 :: x1 :: x2 :: x3 :: x4 :: x5 :: x6 :: x7 :: x8 :: x9 :: x10 :: x11 :: x12 :: x13 :: x14 :: x15 :: x16 :: x17 :: y :: l) H Q) (Q (x0 :: x1 :: x2 :: x3 :: x4 :: x5 :: x6 :: x7 :: x8 :: x9 :: x10 :: x11 :: x12 :: x13 :: x14 :: x15 :: x16 :: x17 :: some v :: l) H) := ⟨z_nm18⟩
instance i_z_var19 {x0 x1 x2 x3 x4 x5 x6 x7 x8 x9 x10 x11 x12 x13 x14 x15 x16 x17 x18 : Option V} {v : V} {l : L2.St} : Stp (tVar 19 (x0 :: x1 :: x2 :: x3 :: x4 :: x5 :: x6 :: x7 :: x8 :: x9 :: x10 :: x11 :: x12 :: x13 :: x14 :: x15 :: x16 :: x17 :: x18 :: some v :: l) H Q) (Q v H) := ⟨z_var19⟩
instance i_z_nm19 {x0 x1 x2 x3 x4 x5 x6 x7 x8 x9 x10 x11 x12 x13 x14 x15 x16 x17 x18 : Option V} {y : Option V} {v : V} {l : L2.St} {Q : L2.St → Hp → Prop} : Stp (gName 19 v (x0 :: x1 :: x2 :: x3 :: x4 :: x5 :: x6 :: x7 :: x8 :: x9 :: x10 :: x11 :: x12 :: x13 :: x14 :: x15 :: x16 :: x17 :: x18 :: y :: l) H Q) (Q (x0 :: x1 :: x2 :: x3 :: x4 :: x5 :: x6 :: x7 :: x8 :: x9 :: x10 :: x11 :: x12 :: x13 :: x14 :: x15 :: x16 :: x17 :: x18 :: some v :: l) H) := ⟨z_nm19⟩
instance i_z_var20 {x0 x1 x2 x3 x4 x5 x6 x7 x8 x9 x10 x11 x12 x13 x14 x15 x16 x17 x18 x19 : Option V} {v : V} {l : L2.St} : Stp (tVar 20 (x0 :: x1 :: x2 :: x3 :: x4 :: x5 :: x6 :: x7 :: x8 :: x9 :: x10 :: x11 :: x12 :: x13 :: x14 :: x15 :: x16 :: x17 :: x18 :: x19 :: some v :: l) H Q) (Q v H) := ⟨z_var20⟩
instance i_z_nm20 {x0 x1 x2 x3 x4 x5 x6 x7 x8 x9 x10 x11 x12 x13 x14 x15 x16 x17 x18 x19 : Option V} {y : Option V} {v : V} {l : L2.St} {Q : L2.St → Hp → Prop} : Stp (gName 20 v (x0 :: x1 :: x2 :: x3 :: x4 :: x5 :: x6 :: x7 :: x8 :: x9 :: x10 :: x11 :: x12 :: x13 :: x14 :: x15 :: x16 :: x17 :: x18 :: x19 :: y :: l) H Q) (Q (x0 :: x1 :: x2 :: x3 :: x4 :: x5 :: x6 :: x7 :: x8 :: x9 :: x10 :: x11 :: x12 :: x13 :: x14 :: x15 :: x16 :: x17 :: x18 :: x19 :: some v :: l) H) := ⟨z_nm20⟩
instance i_z_var21 {x0 x1 x2 x3 x4 x5 x6 x7 x8 x9 x10 x11 x12 x13 x14 x15 x16 x17 x18 x19 x20 : Option V} {v : V} {l : L2.St} : Stp (tVar 21 (x0 :: x1 :: x2 :: x3 :: x4 :: x5 :: x6 :: x7 :: x8 :: x9 :: x10 :: x11 :: x12 :: x13 :: x14 :: x15 :: x16 :: x17 :: x18 :: x19 :: x20 :: some v :: l) H Q) (Q v H) := ⟨z_var21⟩
instance i_z_nm21 {x0 x1 x2 x3 x4 x5 x6 x7 x8 x9 x10 x11 x12 x13 x14 x15 x16 x17 x18 x19 x20 : Option V} {y : Option V} {v : V} {l : L2.St} {Q : L2.St → Hp → Prop} : Stp (gName 21 v (x0 :: x1 :: x2 :: x3 :: x4 :: x5 :: x6 :: x7 :: x8 :: x9 :: x10 :: x11 :: x12 :: x13 :: x14 :: x15 :: x16 :: x17 :: x18 :: x19 :: x20 :: y :: l) H Q) (Q (x0 :: x1 :: x2 :: x3 :: x4 :: x5 :: x6 :: x7 :: x8 :: x9 :: x10 :: x11 :: x12 :: x13 :: x14 :: x15 :: x16 :: x17 :: x18 :: x19 :: x20 :: some v :: l) H) := ⟨z_nm21⟩
instance i_z_var22 {x0 x1 x2 x3 x4 x5 x6 x7 x8 x9 x10 x11 x12 x13 x14 x15 x16 x17 x18 x19 x20 x21 : Option V} {v : V} {l : L2.St} : Stp (tVar 22 (x0 :: x1 :: x2 :: x3 :: x4 :: x5 :: x6 :: x7 :: x8 :: x9 :: x10 :: x11 :: x12 :: x13 :: x14 :: x15 :: x16 :: x17 :: x18 :: x19 :: x20 :: x21 :: some v :: l) H Q) (Q v H) := ⟨z_var22⟩
instance i_z_nm22 {x0 x1 x2 x3 x4 x5 x6 x7 x8 x9 x10 x11 x12 x13 x14 x15 x16 x17 x18 x19 x20 x21 : Option V} {y : Option V} {v : V} {l : L2.St} {Q : L2.St → Hp → Prop} : Stp (gName 22 v (x0 :: x1 :: x2 :: x3 :: x4 :: x5 :: x6 :: x7 :: x8 :: x9 :: x10 :: x11 :: x12 :: x13 :: x14 :: x15 :: x16 :: x17 :: x18 :: x19 :: x20 :: x21 :: y :: l) H Q) (Q (x0 :: x1 :: x2 :: x3 :: x4 :: x5 :: x6 :: x7 :: x8 :: x9 :: x10 :: x11 :: x12 :: x13 :: x14 :: x15 :: x16 :: x17 :: x18 :: x19 :: x20 :: x21 :: some v :: l) H) := ⟨z_nm22⟩
instance i_z_var23 {x0 x1 x2 x3 x4 x5 x6 x7 x8 x9 x10 x11 x12 x13 x14 x15 x16 x17 x18 x19 x20 x21 x22 : Option V} {v : V} {l : L2.St} : Stp (tVar 23 (x0 :: x1 :: x2 :: x3 :: x4 :: x5 :: x6 :: x7 :: x8 :: x9 :: x10 :: x11 :: x12 :: x13 :: x14 :: x15 :: x16 :: x17 :: x18 :: x19 :: x20 :: x21 :: x22 :: some v :: l) H Q) (Q v H) := ⟨z_var23⟩
instance i_z_nm23 {x0 x1 x2 x3 x4 x5 x6 x7 x8 x9 x10 x11 x12 x13 x14 x15 x16 x17 x18 x19 x20 x21 x22 : Option V} {y : Option V} {v : V} {l : L2.St} {Q : L2.St → Hp → Prop} : Stp (gName 23 v (x0 :: x1 :: x2 :: x3 :: x4 :: x5 :: x6 :: x7 :: x8 :: x9 :: x10 :: x11 :: x12 :: x13 :: x14 :: x15 :: x16 :: x17 :: x18 :: x19 :: x20 :: x21 :: x22 :: y :: l) H Q) (Q (x0 :: x1 :: x2 :: x3 :: x4 :: x5 :: x6 :: x7 :: x8 :: x9 :: x10 :: x11 :: x12 :: x13 :: x14 :: x15 :: x16 :: x17 :: x18 :: x19 :: x20 :: x21 :: x22 :: some v :: l) H) := ⟨z_nm23⟩
end
end LX
/-! loops and comprehensions, with their new list and a locked dict looked after -/
namespace LX
open PySem PySem.Spec PyProof.Rows L2
theorem nin {a b : Addr} (h : a ≠ b) : a ∉ [b] := by simpa using h
theorem Fr.lock {H H' : Hp} {d : Addr} {u : HO} {od : Obj} (hd : H d = some u) (f : Fr [] (upd H d (.frz od u)) H') : Fr [] H (upd H' d u) := fun b o e _ => by
  by_cases hb : b = d
  · subst hb; rw [hd] at e; cases e; exact upd_same
  · rw [upd_ne hb]
    exact f.g0 (by rw [upd_ne hb]; exact e)
section
variable {K : PySem.W.Frag} {g : TG} {tt : TT} {te : TE} {vs : List Nat} {σ : L2.St} {H H1 : Hp} {R : Addr}
/-- the state of a comprehension's list R, new since H1: i turns are done -/
def LcI (H1 : Hp) (R : Addr) (Pv : Nat → List V → Hp → Prop) (i : Nat) (H' : Hp) : Prop := ∃ xs, xs.length ≤ i ∧ Pv i xs H' ∧ H' R = some (.lst xs) ∧ Fr [] H1 H'
/-- what is asked behind an element y -/
def LcY (H1 : Hp) (R : Addr) (Pv : Nat → List V → Hp → Prop) (i : Nat) (y : V) (H4 : Hp) : Prop := ∃ acc, H4 R = some (.lst acc) ∧ acc.length < sizeLine ∧ LcI H1 R Pv i (upd H4 R (.lst (acc ++ [y])))
theorem z_lcY {Pv : Nat → List V → Hp → Prop} {i : Nat} {y : V} {xs : List V} (hR : H1 R = none) (h1 : H R = some (.lst xs)) (f : Fr [] H1 H) (hl : xs.length ≤ i) (hs : i < sizeLine) (k : ∀ H5, Fr [R] H H5 → Fr [] H1 H5 → (∀ b, H b = none → H5 b = none) → Pv (i + 1) (xs ++ [y]) H5) : LcY H1 R Pv (i + 1) y H :=
  ⟨xs, h1, by omega, xs ++ [y], by rw [List.length_append]; show xs.length + 1 ≤ i + 1; omega, k _ (Fr.at (by simp)) (f.skip hR) (upd_free h1), upd_same, f.skip hR⟩
theorem z_lcN {Pv : Nat → List V → Hp → Prop} {i : Nat} {xs : List V} (h1 : H R = some (.lst xs)) (f : Fr [] H1 H) (hl : xs.length ≤ i) (k : Pv (i + 1) xs H) : LcI H1 R Pv (i + 1) H := ⟨xs, by omega, k, h1, f⟩
/-- a comprehension over a range -/
theorem z_lcR {lo : Int} {n : Nat} {Q : VK} (Pv : Nat → List V → Hp → Prop) (h0 : ∀ R H', H1 R = none → Fr [] H1 H' → Pv 0 [] H')
    (hs : ∀ R i xs H', H1 R = none → i < n → xs.length ≤ i → Pv i xs H' → H' R = some (.lst xs) → Fr [] H1 H' → g (.int (lo + i)) (wipe σ vs) H' fun σ2 H2 => wipe σ2 vs = wipe σ vs ∧ tt σ2 H2 fun b H3 =>
      if b = true then te σ2 H3 fun y H4 => LcY H1 R Pv (i + 1) y H4 else LcI H1 R Pv (i + 1) H3)
    (hd : ∀ R xs H', H1 R = none → Pv n xs H' → xs.length ≤ n → H' R = some (.lst xs) → Fr [] H1 H' → Q (.ref R) H') :
    oLc (Itr lo n) g tt te vs σ H1 Q := fun R hR =>
  lc_range (fun i H' => LcI H1 R Pv i H') ⟨[], Nat.le_refl _, h0 R _ hR (Fr.new hR), upd_same, Fr.new hR⟩ (fun i H' hi ⟨xs, hl, p, hx, f⟩ => hs R i xs H' hR hi hl p hx f) (fun H' ⟨xs, hl, p, hx, f⟩ => hd R xs H' hR p hl hx f)
/-- a comprehension over a list -/
theorem z_lcL {a : Addr} {src : List V} {Q : VK} (ha : H1 a = some (.lst src)) (Pv : Nat → List V → Hp → Prop) (h0 : ∀ R H', H1 R = none → Fr [] H1 H' → Pv 0 [] H')
    (hs : ∀ R i x xs H', H1 R = none → src[i]? = some x → i < src.length → xs.length ≤ i → Pv i xs H' → H' R = some (.lst xs) → Fr [] H1 H' → g x (wipe σ vs) H' fun σ2 H2 => wipe σ2 vs = wipe σ vs ∧ tt σ2 H2 fun b H3 =>
      if b = true then te σ2 H3 fun y H4 => LcY H1 R Pv (i + 1) y H4 else LcI H1 R Pv (i + 1) H3)
    (hd : ∀ R xs H', H1 R = none → Pv src.length xs H' → xs.length ≤ src.length → H' R = some (.lst xs) → Fr [] H1 H' → Q (.ref R) H') :
    oLc (Itl K a) g tt te vs σ H1 Q := fun R hR =>
  lc_list (xs := src) (fun i H' => LcI H1 R Pv i H') ⟨[], Nat.le_refl _, h0 R _ hR (Fr.new hR), upd_same, Fr.new hR⟩ (fun i H' _ ⟨xs, hl, p, hx, f⟩ => SqL.of (f.g0 ha))
    (fun i x H' hi ⟨xs, hl, p, hx, f⟩ => hs R i x xs H' hR hi (List.getElem?_eq_some_iff.mp hi).1 hl p hx f) (fun H' ⟨xs, hl, p, hx, f⟩ => hd R xs H' hR p hl hx f)
theorem Fr.seq {H H' : Hp} {a : Addr} {xs : List V} (f : Fr [] H H') (h : SqL K H a xs) : SqL K H' a xs := (show L2.Same H H' from fun b u e => f.g0 e).seq h
/-- over a list that may be the script -/
theorem z_lcQ {a : Addr} {src : List V} {Q : VK} (ha : SqL K H1 a src) (Pv : Nat → List V → Hp → Prop) (h0 : ∀ R H', H1 R = none → Fr [] H1 H' → Pv 0 [] H')
    (hs : ∀ R i x xs H', H1 R = none → src[i]? = some x → i < src.length → xs.length ≤ i → Pv i xs H' → H' R = some (.lst xs) → Fr [] H1 H' → g x (wipe σ vs) H' fun σ2 H2 => wipe σ2 vs = wipe σ vs ∧ tt σ2 H2 fun b H3 =>
      if b = true then te σ2 H3 fun y H4 => LcY H1 R Pv (i + 1) y H4 else LcI H1 R Pv (i + 1) H3)
    (hd : ∀ R xs H', H1 R = none → Pv src.length xs H' → xs.length ≤ src.length → H' R = some (.lst xs) → Fr [] H1 H' → Q (.ref R) H') :
    oLc (Itl K a) g tt te vs σ H1 Q := fun R hR =>
  lc_list (xs := src) (fun i H' => LcI H1 R Pv i H') ⟨[], Nat.le_refl _, h0 R _ hR (Fr.new hR), upd_same, Fr.new hR⟩ (fun i H' _ ⟨xs, hl, p, hx, f⟩ => f.seq ha)
    (fun i x H' hi ⟨xs, hl, p, hx, f⟩ => hs R i x xs H' hR hi (List.getElem?_eq_some_iff.mp hi).1 hl p hx f) (fun H' ⟨xs, hl, p, hx, f⟩ => hd R xs H' hR p hl hx f)
theorem z_iterQ {p : Addr} {xs : List V} {R : It → Hp → Prop} (h1 : SqL K H p xs) (h : R (Itl K p) H) : oIter K (.ref p) H R := ⟨p, rfl, ⟨xs, h1⟩, h⟩
/-- over a tuple -/
theorem z_lcT {a : Addr} {src : List V} {Q : VK} (ha : H1 a = some (.tup src)) (Pv : Nat → List V → Hp → Prop) (h0 : ∀ R H', H1 R = none → Fr [] H1 H' → Pv 0 [] H')
    (hs : ∀ R i x xs H', H1 R = none → src[i]? = some x → i < src.length → xs.length ≤ i → Pv i xs H' → H' R = some (.lst xs) → Fr [] H1 H' → g x (wipe σ vs) H' fun σ2 H2 => wipe σ2 vs = wipe σ vs ∧ tt σ2 H2 fun b H3 =>
      if b = true then te σ2 H3 fun y H4 => LcY H1 R Pv (i + 1) y H4 else LcI H1 R Pv (i + 1) H3)
    (hd : ∀ R xs H', H1 R = none → Pv src.length xs H' → xs.length ≤ src.length → H' R = some (.lst xs) → Fr [] H1 H' → Q (.ref R) H') :
    oLc (Itt K a) g tt te vs σ H1 Q := fun R hR =>
  lc_tup (xs := src) (fun i H' => LcI H1 R Pv i H') ⟨[], Nat.le_refl _, h0 R _ hR (Fr.new hR), upd_same, Fr.new hR⟩ (fun i H' _ ⟨xs, hl, p, hx, f⟩ => SqT.of (f.g0 ha))
    (fun i x H' hi ⟨xs, hl, p, hx, f⟩ => hs R i x xs H' hR hi (List.getElem?_eq_some_iff.mp hi).1 hl p hx f) (fun H' ⟨xs, hl, p, hx, f⟩ => hd R xs H' hR p hl hx f)
/-- a comprehension over a dict's keys; the dict is locked meanwhile (HF), and free again behind it -/
theorem z_lcK {td : TE} {d : Addr} {kvs : List (Key × V)} {Q : VK} (htd : ∀ H' (R : VK), R (.ref d) H' → td σ H' R) (hd : H d = some (.dK kvs)) (Pv : Nat → List V → Hp → Prop)
    (h0 : ∀ od HF R H', Fr [d] H HF → HF d = some (.frz od (.dK kvs)) → HF R = none → Fr [] HF H' → Pv 0 [] H')
    (hs : ∀ od HF R i k v xs H', Fr [d] H HF → HF d = some (.frz od (.dK kvs)) → HF R = none → kvs[i]? = some (k, v) → i < kvs.length → xs.length ≤ i → Pv i xs H' → H' R = some (.lst xs) → Fr [] HF H' → g (kV k) (wipe σ vs) H' fun σ2 H2 => wipe σ2 vs = wipe σ vs ∧ tt σ2 H2 fun b H3 =>
      if b = true then te σ2 H3 fun y H4 => LcY HF R Pv (i + 1) y H4 else LcI HF R Pv (i + 1) H3)
    (he : ∀ R xs H' H2, H R = none → Pv kvs.length xs H' → xs.length ≤ kvs.length → H2 R = some (.lst xs) → Fr [d] H' H2 → Fr [] H H2 → Q (.ref R) H2) :
    tLockE (tLc (iKeys td) g tt te vs) σ H Q := by
  refine ⟨d, .dK kvs, hd, trivial, fun od => ?_⟩
  refine htd _ _ ⟨d, od, rfl, Or.inl ⟨kvs, upd_same, fun R hR => ?_⟩⟩
  have hF : upd H d (.frz od (.dK kvs)) d = some (.frz od (.dK kvs)) := upd_same
  have fF : Fr [d] H (upd H d (.frz od (.dK kvs))) := Fr.at (by simp)
  have nR : R ≠ d := fun z => by rw [z, upd_same] at hR; cases hR
  have hR0 : H R = none := by rw [upd_ne nR] at hR; exact hR
  have lk : ∀ H', Fr [] (upd H d (.frz od (.dK kvs))) H' → Fr [] H (upd H' d (.dK kvs)) := fun H' f => Fr.lock hd f
  generalize upd H d (.frz od (.dK kvs)) = HF at hF fF hR lk
  refine ⟨fun i m H' => m = kvs.length - i ∧ i ≤ kvs.length ∧ LcI HF R Pv i H', ⟨kvs.length, by simp, Nat.zero_le _, [], Nat.le_refl _, h0 od HF R _ fF hF hR (Fr.new hR), upd_same, Fr.new hR⟩, ?_⟩
  rintro i m H' ⟨rfl, hi, xs, hl, p, hx, f⟩
  by_cases hlt : i < kvs.length
  · refine .inr ⟨⟨f.g0 hF, hlt⟩, fun H' => LcI HF R Pv (i + 1) H', fun H'' p' => ⟨kvs.length - (i + 1), by omega, rfl, hlt, p'⟩, fun x H'' y => ?_⟩
    obtain ⟨e, k, v, hk, ex⟩ := y
    subst e ex
    exact hs od HF R i k v xs _ fF hF hR hk hlt hl p hx f
  · have e : i = kvs.length := by omega
    subst e
    exact .inl ⟨⟨f.g0 hF, Nat.le_refl _⟩, f.g0 hF, he R xs H' _ hR0 p hl (by rw [upd_ne nR]; exact hx) (Fr.at (by simp)) (lk _ f)⟩
/-- a dict locked: HF is H with it locked -/
structure Lk (H : Hp) (d : Addr) (kvs : List (Key × V)) (od : Obj) (HF : Hp) : Prop where
  f : Fr [d] H HF
  at' : HF d = some (.frz od (.dK kvs))
  lk : ∀ F H', d ∉ F → Fr F HF H' → Fr F H (upd H' d (.dK kvs))
theorem Fr.lockF {F : List Addr} {H H' : Hp} {d : Addr} {u : HO} {od : Obj} (hd : H d = some u) (f : Fr F (upd H d (.frz od u)) H') : Fr F H (upd H' d u) := fun b o e n => by
  by_cases hb : b = d
  · subst hb; rw [hd] at e; cases e; exact upd_same
  · rw [upd_ne hb]
    exact f b o (by rw [upd_ne hb]; exact e) n
def FkN (HF : Hp) (F : List Addr) (Pv : Nat → L2.St → Hp → Prop) (i : Nat) (σ : L2.St) (H : Hp) : Prop := Pv i σ H ∧ Fr F HF H
def FkR (d : Addr) (kvs : List (Key × V)) (od : Obj) (R : Hp → Prop) (H : Hp) : Prop := H d = some (.frz od (.dK kvs)) ∧ R (upd H d (.dK kvs))
theorem z_fkR {H HF H3 : Hp} {F : List Addr} {d : Addr} {kvs : List (Key × V)} {od : Obj} {R : Hp → Prop} (L : Lk H d kvs od HF) (hF : d ∉ F) (f : Fr F HF H3) (k : ∀ H4, Fr [d] H3 H4 → Fr F H H4 → R H4) : FkR d kvs od R H3 := ⟨f.g L.at' hF, k _ (Fr.at (by simp)) (L.lk F _ hF f)⟩
theorem z_fkN {HF : Hp} {F : List Addr} {Pv : Nat → L2.St → Hp → Prop} {i : Nat} {σ : L2.St} {H : Hp} (f : Fr F HF H) (k : Pv i σ H) : FkN HF F Pv i σ H := ⟨k, f⟩
/-- a for over a dict's keys; the dict is locked meanwhile; the body may change what F names -/
theorem z_forK {D : Ends} {td : TE} {tb : TS} {d : Addr} {kvs : List (Key × V)} (F : List Addr) (hF : d ∉ F) (htd : ∀ H' (R : VK), R (.ref d) H' → td σ H' R) (hd : H d = some (.dK kvs)) (Pv : Nat → L2.St → Hp → Prop)
    (h0 : ∀ od HF, Lk H d kvs od HF → Pv 0 σ HF)
    (hs : ∀ od HF i k v σ' H', Lk H d kvs od HF → kvs[i]? = some (k, v) → i < kvs.length → Pv i σ' H' → Fr F HF H' → H' d = some (.frz od (.dK kvs)) → g (kV k) σ' H' fun σ2 H2 => tb ⟨FkN HF F Pv (i + 1), fun v H3 => FkR d kvs od (D.rt v) H3, fun σ3 H3 => FkR d kvs od (D.nx σ3) H3, FkN HF F Pv (i + 1)⟩ σ2 H2)
    (he : ∀ σ' H' H2, Pv kvs.length σ' H' → Fr [d] H' H2 → H2 d = some (.dK kvs) → Fr F H H2 → D.nx σ' H2) :
    tLock (tFor (iKeys td) g tb) D σ H := by
  refine ⟨d, .dK kvs, hd, trivial, fun od => ?_⟩
  refine htd _ _ ⟨d, od, rfl, Or.inl ⟨kvs, upd_same, ?_⟩⟩
  have L : Lk H d kvs od (upd H d (.frz od (.dK kvs))) := ⟨Fr.at (by simp), upd_same, fun F H' _ f => Fr.lockF hd f⟩
  generalize upd H d (.frz od (.dK kvs)) = HF at L
  refine ⟨fun i m σ' H' => m = kvs.length - i ∧ i ≤ kvs.length ∧ FkN HF F Pv i σ' H', ⟨kvs.length, by simp, Nat.zero_le _, h0 od HF L, Fr.rfl'⟩, ?_⟩
  rintro i m σ' H' ⟨rfl, hi, p, f⟩
  by_cases hlt : i < kvs.length
  · refine .inr ⟨⟨f.g L.at' hF, hlt⟩, FkN HF F Pv (i + 1), fun σ'' H'' p' => ⟨kvs.length - (i + 1), by omega, rfl, hlt, p'⟩, fun x H'' y => ?_⟩
    obtain ⟨e, k, v, hk, ex⟩ := y
    subst e ex
    exact hs od HF i k v σ' _ L hk hlt p f (f.g L.at' hF)
  · have e : i = kvs.length := by omega
    subst e
    exact .inl ⟨⟨f.g L.at' hF, Nat.le_refl _⟩, f.g L.at' hF, he σ' H' _ p (Fr.at (by simp)) upd_same (L.lk F _ hF f)⟩
end
end LX
/-! more rules: chains, tuples, sorted of tuples -/
namespace LX
open PySem PySem.Spec PyProof.Rows L2
section
variable {K : PySem.W.Frag} {σ : L2.St} {H : Hp} {D : Ends} {Q : VK}
theorem z_chain {r r' : R2} {ta tb tc : TE} (h : ta σ H fun x H1 => tb σ H1 fun y H2 => r x y H2 fun z H3 => oBl z H3 fun k H3 => if k = true then tc σ H3 fun u H4 => r' y u H4 Q else Q (.bl false) H3) : tChain r r' ta tb tc σ H Q := h
instance i_chain {r r' : R2} {ta tb tc : TE} : Stp (tChain r r' ta tb tc σ H Q) (ta σ H fun x H1 => tb σ H1 fun y H2 => r x y H2 fun z H3 => oBl z H3 fun k H3 => if k = true then tc σ H3 fun u H4 => r' y u H4 Q else Q (.bl false) H3) := ⟨z_chain⟩
theorem z_addT {a b : Addr} {xs ys : List V} (h1 : H a = some (.tup xs)) (h2 : H b = some (.tup ys)) (h3 : xs.length + ys.length ≤ sizeLine) (n1 : xs ≠ []) (n2 : ys ≠ []) (h : ∀ p H1, H p = none → Fr [] H H1 → H1 p = some (.tup (xs ++ ys)) → Q (.ref p) H1) : rAddU K (.ref a) (.ref b) H Q :=
  Or.inr ⟨a, b, xs, ys, rfl, rfl, SqT.of h1, SqT.of h2, h3, fun e => absurd e n1, fun _ e => absurd e n2, fun _ _ => z_new h⟩
def rTupU (K : PySem.W.Frag) : List V → Hp → VK → Prop := fun xs H Q => ∃ p ys, xs = [.ref p] ∧ ((SqL K H p ys ∧ ∀ l, H l = none → Q (.ref l) (upd H l (.tup ys))) ∨ (SqT K H p ys ∧ Q (.ref p) H))
theorem call_tupleU {X : Cx} : CallR X (.type "tuple") (rTupU X.K) := call_tuple_of
theorem z_tupL {p : Addr} {ys : List V} (h1 : H p = some (.lst ys)) (h : ∀ l H1, H l = none → Fr [] H H1 → H1 l = some (.tup ys) → Q (.ref l) H1) : rTupU K [.ref p] H Q := ⟨p, ys, rfl, Or.inl ⟨SqL.of h1, z_new h⟩⟩
theorem z_tupT {p : Addr} {ys : List V} (h1 : H p = some (.tup ys)) (h : Q (.ref p) H) : rTupU K [.ref p] H Q := ⟨p, ys, rfl, Or.inr ⟨SqT.of h1, h⟩⟩
/-- sorted of a list of tuples, as data -/
def rSortT (K : PySem.W.Frag) : List V → Hp → VK → Prop := fun vs H Q => ∃ (a : Addr) (bs : List (Addr × PyData)), vs = [.ref a] ∧ SqL K H a (bs.map fun b => V.ref b.1) ∧ (∀ b ∈ bs, Dp K H (.ref b.1) b.2) ∧ (∀ b ∈ bs, ∀ b' ∈ bs, PySem.W.alike b.2 b'.2 = true) ∧ (∀ b ∈ bs, ∃ x r, b.2 = .tuple (x :: r)) ∧ bs.length ≤ sizeLine ∧ (∀ b ∈ bs, b.2.depth ≤ 60) ∧
  ∀ p, H p = none → Q (.ref p) (upd H p (.lst ((bs.mergeSort (PySem.W.dataLe false (fun b : Addr × PyData => b.2))).map fun b => V.ref b.1)))
theorem each_refs : ∀ {bs : List (Addr × PyData)} {its : List Value}, Vals (bs.map fun b => V.ref b.1) its → PySem.W.EachIs (fun v (b : Addr × PyData) => v = .ref b.1) its bs
  | [], _, r => by cases r; exact .nil
  | b :: bs, _, r => by
    cases r with
    | cons h t => exact .cons h (each_refs t)
theorem refs_each : ∀ {bs : List (Addr × PyData)} {its : List Value}, PySem.W.EachIs (fun v (b : Addr × PyData) => v = .ref b.1) its bs → Vals (bs.map fun b => V.ref b.1) its
  | _, _, .nil => .nil
  | _, _, .cons h t => .cons h (refs_each t)
theorem call_sortedT {X : Cx} (hu : X.A.units + 64 < cLine) : CallR X (.builtin "sorted") (rSortT X.K) := by
  intro pins s σ H vs us Q I r h
  obtain ⟨a, bs, rfl, hs, hd, hal, htp, hl, hdep, q⟩ := h
  obtain ⟨its, rv, pl, _⟩ := I.list hs
  rw [Vals.ref1 r]
  have e1 := each_refs rv
  have er : PySem.W.EachIs (fun v (b : Addr × PyData) => ∃ as, Reads s.heap v b.2 as) its bs := PySem.W.EachIs.of_zip e1.length fun p hp => by
    have hm := (List.of_mem_zip hp).2
    have hv := e1.zip p hp
    exact Dp.reads I _ _ _ (hd _ hm) hv
  refine PySem.W.sorted_data (enc := fun b : Addr × PyData => b.2) (by simpa using pl.isList) e1 er (fun d h d' h' => ?_) (.inl fun d h => ?_) hl (fun b hb => by have := hdep b hb; omega) fun out ho eo => ?_
  · obtain ⟨b, hb, rfl⟩ := List.mem_map.mp h
    obtain ⟨b', hb', rfl⟩ := List.mem_map.mp h'
    exact hal b hb b' hb'
  · obtain ⟨b, hb, rfl⟩ := List.mem_map.mp h
    exact htp b hb
  obtain ⟨ep, he'⟩ := PyProof.Rows.sortedAll_at s.heap its out.toArray
  have hlen : ((bs.mergeSort (PySem.W.dataLe false (fun b : Addr × PyData => b.2))).map fun b => V.ref b.1).length ≤ sizeLine := by rw [List.length_map, List.length_mergeSort]; exact hl
  exact ⟨.ref _, upd H (s.heap.objs.size + 1) (.lst ((bs.mergeSort (PySem.W.dataLe false (fun b : Addr × PyData => b.2))).map fun b => V.ref b.1)), I.laid (t' := s.toks) (fun _ _ => PyProof.Rows.sortedAll_old) (Nat.le_succ _) ⟨hlen, out, ep, refs_each eo, he'⟩, rfl, q _ (I.hok.fresh (Nat.le_succ _))⟩
/-- .. already in order -/
theorem z_sortT {a : Addr} {bs : List (Addr × PyData)} (h1 : H a = some (.lst (bs.map fun b => V.ref b.1))) (h2 : ∀ b ∈ bs, Dp K H (.ref b.1) b.2) (h3 : ∀ b ∈ bs, ∀ b' ∈ bs, PySem.W.alike b.2 b'.2 = true) (h4 : ∀ b ∈ bs, ∃ x r, b.2 = .tuple (x :: r)) (h5 : bs.length ≤ sizeLine) (h6 : ∀ b ∈ bs, b.2.depth ≤ 60)
    (h7 : bs.Pairwise fun x y => PySem.W.dataLe false (fun b : Addr × PyData => b.2) x y = true) (h : ∀ p H1, H p = none → Fr [] H H1 → H1 p = some (.lst (bs.map fun b => V.ref b.1)) → Q (.ref p) H1) : rSortT K [.ref a] H Q :=
  ⟨a, bs, rfl, SqL.of h1, h2, h3, h4, h5, h6, by rw [List.mergeSort_of_pairwise h7]; exact fun p hp => h p _ hp (Fr.new hp) upd_same⟩
end
end LX
/-! sorted(d, key=lambda y: d[y]) of a dict of whole numbers by whole numbers, d a captured name -/
namespace LX
open PySem PySem.Spec PySem.W PyProof.Rows L2 NdefX LamX
section
variable {P : Program} {w : World} {A : Around} {s : Shared}
/-- the lambda's call: the captured dict's value -/
theorem look_call {κ : Type} [DecidableEq κ] {knd : PySem.KeyKind P w κ} {f c' cc d : Addr} {qual x y : Str} {params : Arguments} {scope : Scope} {cl : List (Str × Addr)} {pm ctv v : Value} {px py pos : Pos} {fm : κ → Option Value} {k : κ} {i : Int} {t : Tok}
    (hroom : A.depth < recursionLimit) (ho : s.heap.get? f = some (PySem.W.kla_obj "<lambda>" qual params (.Subscript (.Name x px) (.Name y py) pos) scope cl pm c' ctv)) (hc : s.heap.CodeRec (.ref c') qual)
    (hk : scope.kind = .function) (hco : scope.isCoroutine = false) (hge : scope.isGenerator = false) (nocell : ∀ z ∈ scope.names, z.2 ≠ .cell) (hy : scope.names.lookup y = some .local) (hx : scope.names.lookup x = some .free)
    (hcx : cl.lookup x = some cc) (hcell : s.heap.IsCell cc (some (.ref d))) (hm : s.heap.MapOf knd d fm) (hkey : knd.is k v = true) (hval : fm k = some (.int i t)) (lim : s.heap.NoLimit)
    (hbind : ∀ (pm cv ctv : Value), bindArgs (PySem.W.kla_fn "<lambda>" qual params (.Subscript (.Name x px) (.Name y py) pos) scope cl pm cv ctv) ⟨[v], []⟩ = pure [(y, v)])
    (dx : (x == ("__debug__" : Str)) = false) (dy : (y == ("__debug__" : Str)) = false) (cdx : (x == ("__classdict__" : Str)) = false) :
    wpAny (model P w) A (call (.ref f) [v]) (KeyPure (.int i) s) (fun _ _ => False) s := by
  have rc : codeAny (model P w) A (.call (.ref f) ⟨[v], []⟩) (fun r s' => ∃ u, r = .ok (.ret u) ∧ KeyPure (.int i) s u s') s := by
    refine PySem.W.kla_callFunE hroom ho rfl hco hge rfl hc ?_
    rw [hbind]
    refine wpAny_pure (wpAny_newFunctionEnv nocell (fun z hz => ?_) (fun h₁ hns hsb => ⟨lim.fresh _ hsb, ?_⟩) hk)
    · have e : z = (y, v) := by simpa using hz
      rw [e]; exact hy
    show codeAny _ _ (.expr (.Subscript (.Name x px) (.Name y py) pos) (PySem.W.envX qual scope s.heap.objs.size f (.ref c') cl)) _ _
    have kp : ∀ b o, s.heap.get? b = some o → h₁.get? b = some o := fun b o e => hsb.extBut b o (Nat.ne_of_lt (Heap.lt_size e)) (Heap.get?_push_of_some _ e)
    have hcell' : h₁.IsCell cc (some (.ref d)) := by
      obtain ⟨o, h1, h2⟩ := hcell
      exact ⟨o, kp _ _ h1, h2⟩
    have hm' : h₁.MapOf knd d fm := by
      obtain ⟨o, es, ep, h1, h2⟩ := hm
      exact ⟨o, es, ep, kp _ _ h1, h2⟩
    refine PySem.W.kla_codeExpr ?_
    refine subD_of PySem.F.slot_dict_getitem.lookup (fun _ _ => rfl) ?_
    refine wpAny_Name (wpAny_loadName_free hk hx hcx hcell' ?_ cdx) dx
    refine wpAny_Name (wpAny_loadName_local hk hy hns (zip_look (ps := [y]) (us := [v]) (i := 0) (by simp) rfl rfl) ?_) dy
    refine ⟨hm'.typeIs, ?_⟩
    refine wpAny_getItem_of hkey hm' hval ?_
    exact ⟨_, rfl, _, _, rfl, kp, .int i t⟩
  refine wpAny_call (codeAny_mono rc fun r s' hq => ?_)
  obtain ⟨u, rfl, hq⟩ := hq
  exact hq
end
/-- a dict of whole numbers by whole numbers -/
def pD (ps : List (Int × Int)) : List (Key × V) := ps.map fun p => (.inl p.1, .int p.2)
theorem pD_val {ps : List (Int × Int)} {n i : Int} (nd : (ps.map (·.1)).Nodup) (h : (n, i) ∈ ps) : valV (pD ps) (.inl n) = some (.int i) := by
  induction ps with
  | nil => simp at h
  | cons p r ih =>
    obtain ⟨h1, h2⟩ := List.nodup_cons.mp nd
    unfold pD at ih ⊢
    rw [List.map_cons]
    rcases List.mem_cons.mp h with e | e
    · subst e
      exact valV_pos (p := (Sum.inl n, V.int i)) rfl
    · rw [valV_neg (p := (Sum.inl p.1, V.int p.2)) (fun z => h1 (by show p.1 ∈ _; rw [show p.1 = n from Sum.inl.inj z]; exact List.mem_map.mpr ⟨_, e, rfl⟩))]
      exact ih h2 e
theorem each_of {us : List Value} {ps : List (Int × Int)} (hl : us.length = ps.length) (h : ∀ (j : Nat) (v : Value) (p : Int × Int), us[j]? = some v → ps[j]? = some p → ∃ t, v = Value.int p.1 t) :
    PySem.W.EachIs (fun (v : Value) (p : Int × Int) => ∃ t, v = Value.int p.1 t) us ps := by
  induction us generalizing ps with
  | nil => cases ps with
    | nil => exact .nil
    | cons => simp at hl
  | cons u r ih => cases ps with
    | nil => simp at hl
    | cons p t => exact .cons (h 0 u p rfl rfl) (ih (by simpa using hl) fun j v q h1 h2 => h (j + 1) v q h1 h2)
theorem each_vals {us : List Value} {ps : List (Int × Int)} (h : PySem.W.EachIs (fun (v : Value) (p : Int × Int) => ∃ t, v = Value.int p.1 t) us ps) : Vals ((ps.map (·.1)).map V.int) us := by
  induction h with
  | nil => exact .nil
  | cons h _ ih => exact .cons h ih
section
variable {X : Cx}
theorem sort_dict_by {pins : List (Addr × Obj)} {σ : L2.St} {H : Hp} {s : Shared} {a fq : Addr} {ps : List (Int × Int)} {Q : VK} (hcalm : X.calm = true) (hu : X.A.units + 64 < cLine) (I : Inv X pins σ H s) (hd : H a = some (.dK (pD ps)))
    (turn : ∀ (v : Value) (p : Int × Int) (t : Tok), v = .int p.1 t → p ∈ ps → ∀ (h : Heap) (tk : Nat), (∀ b o, s.heap.get? b = some o → h.get? b = some o) →
      wpAny (model X.prog X.w) X.A.in1.in1 (call (.ref fq) [v]) (KeyPure (.int p.2) { s with heap := h, toks := tk }) (fun _ _ => False) { s with heap := h, toks := tk })
    (q : ∀ (ys : List (Int × Int)) (p : Addr), ys.Perm ps → ys.Pairwise (fun x y => x.2 ≤ y.2) → H p = none → Q (.ref p) (upd H p (.lst ((ys.map (·.1)).map V.int)))) :
    wpAny (model X.prog X.w) X.A (call (.builtin "sorted") [.ref a] [(Str.ofString "key", .ref fq)]) (EP X pins σ Q) X.xe s := by
  obtain ⟨z, lo, vs, rel, dd⟩ := dk_rd I.hok (Rd.of hd)
  obtain ⟨ep, hat⟩ := dd.dictAt
  have hkl : ps.length ≤ sizeLine := by
    unfold pD at z
    rw [List.length_map] at z
    exact z
  have hkeys : vs.map (·.1) = ps.map fun p => Sum.inl p.1 := by
    rw [← rel.keys]
    unfold pD
    rw [List.map_map]; rfl
  have hl : vs.length = ps.length := by
    have e := congrArg List.length hkeys
    rw [List.length_map, List.length_map] at e
    exact e
  have h16 : vs.length ≤ sizeLine := by rw [hl]; exact hkl
  refine call_function_entry_kw PyProof.Rows.kind_sorted PyProof.Rows.plain_sorted PyProof.Rows.entry_sorted (PyProof.Rows.ksk_s1 _ _) ?_
  unfold Builtin.«sorted»
  refine wpAny_bind (m := checkCount "sorted" 1 1 _) (wpAny_pure ?_)
  refine wpAny_bind (PySem.W.kdu_collect (A := X.A.in1) (PySem.W.kdl_dict (knd := mixKind X.prog X.w) (kvs := vs) (ep := ep) lo) (I.ok.hd hcalm) hat h16 fun h' tk acc hk hacc => ?_)
  have hal : acc.toList.length = ps.length := by rw [Array.length_toList, hacc.1, hl]
  have hE : PySem.W.EachIs (fun (v : Value) (p : Int × Int) => ∃ t, v = Value.int p.1 t) acc.toList ps := each_of hal fun j v p e ep' => by
    obtain ⟨k, x, e1, e2⟩ := hacc.2 j v (by rw [← Array.getElem?_toList]; exact e)
    have e3 : (vs.map (·.1))[j]? = some k := by rw [List.getElem?_map, e1]; rfl
    rw [hkeys, List.getElem?_map, ep'] at e3
    have e5 : Sum.inl p.1 = k := Option.some.inj e3
    subst e5
    rcases keyIs_shape (show keyIs (Sum.inl p.1) v = true from e2) with ⟨i, t, ek, ev⟩ | ⟨z, t, ek, ev⟩
    · cases ek
      exact ⟨t, ev⟩
    · cases ek
  have I1 : Inv X pins σ H { s with heap := h', toks := tk } := I.kept hk
  refine wpAny_bind (wpAny_newList ?_ (by rw [hal]; exact hkl))
  have hoL : (h'.push (seqObj "list" acc.toList.toArray 0)).get? h'.objs.size = some (seqObj "list" acc.toList.toArray 0) := Heap.get?_push_size _ rfl
  show wpAny _ _ _ _ _ { s with heap := h'.push (seqObj "list" acc.toList.toArray 0), toks := tk }
  have nL : ∀ b o, h'.get? b = some o → b ≠ h'.objs.size := fun b o e => Nat.ne_of_lt (Heap.lt_size e)
  refine wpAny_bind (wpAny_holding (PySem.W.list_sort_key_data (A := X.A.in1) (b := false) (s := { s with heap := h'.push (seqObj "list" acc.toList.toArray 0), toks := tk }) (fun p : Int × Int => PyData.int p.2) hoL hE ?_ ?_ hkl ?_ (PyProof.Rows.ksk_l1 _ _) (PyProof.Rows.ksk_t1 _ _) (fun v p hv hp h2 tk2 kb => ?_) fun out c h2 tk2 kb hout hlen hEo => ?_))
  · exact PySem.W.AllAlike.of (enc := fun p : Int × Int => PyData.int p.2) fun _ _ => rfl
  · exact PySem.W.Sortable.others (enc := fun p : Int × Int => PyData.int p.2) fun _ => ⟨(by intro z; cases z), fun xs => (by intro z; cases z)⟩
  · intro p _
    show X.A.units + 1 + 1 + 0 < cLine
    omega
  · obtain ⟨t, rfl⟩ := hv
    exact turn _ p t rfl hp h2 tk2 fun b o e => kb b o (nL b o (hk b o e)) (Heap.get?_push_of_some _ (hk b o e))
  · have hm := hEo
    rw [PySem.W.dataLe_int (fun p : Int × Int => p.2)] at hm
    have pm : (ps.mergeSort fun a b : Int × Int => decide (a.2 ≤ b.2)).Perm ps := List.mergeSort_perm _ _
    have pw : (ps.mergeSort fun a b : Int × Int => decide (a.2 ≤ b.2)).Pairwise (fun x y => x.2 ≤ y.2) := by
      have := List.pairwise_mergeSort (le := fun a b : Int × Int => decide (a.2 ≤ b.2)) (fun a b c h1 h2 => by simp at h1 h2 ⊢; omega) (fun a b => by simp; omega) ps
      exact this.imp fun h => of_decide_eq_true h
    generalize ps.mergeSort (fun a b : Int × Int => decide (a.2 ≤ b.2)) = ys at hm pm pw
    have hvals := each_vals hm
    have hlen2 : ((ys.map (·.1)).map V.int).length ≤ sizeLine := by
      rw [List.length_map, List.length_map, pm.length_eq]
      exact hkl
    refine wpAny_pure ⟨_, rfl, .ref h'.objs.size, upd H h'.objs.size (.lst ((ys.map (·.1)).map V.int)), I1.laid (t' := tk2) (fun b u e => kb b u (nL b u e) (Heap.get?_push_of_some _ e)) (Nat.le_refl _)
      (show ObjOk X.prog X.w _ _ _ (.lst ((ys.map (·.1)).map V.int)) from ⟨hlen2, out, c, hvals, hout⟩), rfl, q _ _ pm pw (I1.hok.fresh (Nat.le_refl _))⟩
def tSKL (T : List (Addr × Str)) (i : Nat) : TE := fun σ H Q => ∃ (a : Addr) (ps : List (Int × Int)), σ[i]? = some (some (.ref a)) ∧ H a = some (.dK (pD ps)) ∧ (ps.map (·.1)).Nodup ∧ Tabs T H ∧
  ∀ H1, ExtN H H1 → Tabs T H1 → ∀ (ys : List (Int × Int)) (q : Addr), ys.Perm ps → ys.Pairwise (fun x y => x.2 ≤ y.2) → H1 q = none → Q (.ref q) (upd H1 q (.lst ((ys.map (·.1)).map V.int)))
theorem pe_sortKeyLam {T : List (Addr × Str)} {c P : Addr} {k i : Nat} {x y : Str} {params : Arguments} {scope : Scope} {p px px2 py spos lpos kpos pos : Pos} (hcalm : X.calm = true) (hr : Room k X.A) (hg : Gl X "sorted") (hm : X.mg "sorted" = none)
    (hN : X.N[i]? = some x) (hvx : X.env.scope.names.lookup x = some .cell) (TB : TabB X.base X.mg c P) (hcode : X.env.code = .ref c) (hmT : (P, X.env.qual ++ "<lambda>") ∈ T) (huT : ∀ p ∈ T, p.1 = P → p.2 = X.env.qual ++ "<lambda>")
    (hdef : defaultsOf params X.env = ([], [])) (hk : scope.kind = .function) (hco : scope.isCoroutine = false) (hge : scope.isGenerator = false) (nocell : ∀ z ∈ scope.names, z.2 ≠ .cell) (hy : scope.names.lookup y = some .local) (hx : scope.names.lookup x = some .free)
    (hfree : ∀ z ∈ scope.names, z.2 = .free → X.env.scope.names.lookup z.1 = some .cell ∨ X.env.scope.names.lookup z.1 = some .free)
    (hbind : ∀ (q : Str) (cl : List (Str × Addr)) (v pm cv ctv : Value), bindArgs (PySem.W.kla_fn "<lambda>" q params (.Subscript (.Name x px2) (.Name y py) spos) scope cl pm cv ctv) ⟨[v], []⟩ = pure [(y, v)])
    (dx : (x == ("__debug__" : Str)) = false) (dy : (y == ("__debug__" : Str)) = false) (cdx : (x == ("__classdict__" : Str)) = false) :
    PE X (.Call (.Name "sorted" p) [.Name x px] [⟨some "key", .Lambda params (.Subscript (.Name x px2) (.Name y py) spos) scope lpos, kpos⟩] pos) (tSKL T i) := by
  refine ⟨fun pins s σ H Q I h => ?_⟩
  obtain ⟨a, ps, hs, hd, nd, hT, q⟩ := h
  have hfr : ∀ z ∈ scope.names, z.2 = .free → ∃ c, X.env.cells.lookup z.1 = some c := fun z hz e => (hfree z hz e).elim (fun q => I.ok.has _ (.inl q)) fun q => I.ok.has _ (.inr q)
  refine wpAny_Call_Name_kw (ld_blt I hg hm bb_sorted ?_)
  refine PyProof.Rows.callWith_kw (id := "sorted") (thn ((pa_cons (pe_var (pos := px) hN (Or.inr (Or.inl hvx)) dx cdx) pa_nil).run pos pins s σ H (fun vs H1 => vs = [.ref a] ∧ H1 = H) I ⟨_, hs, rfl, rfl⟩) fun us s1 hq => ?_)
  obtain ⟨vs, H1, I1, r1, e1, e2⟩ := hq
  subst e1 e2
  obtain ⟨u0, rfl, ru0⟩ := vals1 r1
  obtain rfl : u0 = Value.ref a := ru0
  show wpAny _ _ (evalAll ((do let v ← eval (.Lambda params (.Subscript (.Name x px2) (.Name y py) spos) scope lpos) X.env; standAt pos; pure v) :: [])) _ _ s1
  refine wpAny_evalAll_cons (wpAny_bind (lam_make2 I1 TB hcode hmT huT hT hdef hfr fun f c' pm ctv H2 s2 I2 eN T2 hf hfn hfrm hcO => wpAny_bind (wpAny_standAt (wpAny_pure ?_))))
  refine wpAny_evalAll_nil ?_
  show wpAny _ _ (call (.builtin "sorted") [.ref a] [(Str.ofString "key", .ref f)]) _ _ s2
  have hd2 := eN _ _ hd (by intro ps z; cases z)
  have hu64 : X.A.units + 64 < cLine := by have := hr.un; omega
  refine sort_dict_by hcalm hu64 I2 hd2 (fun v pr t hv hp h tk kb => ?_) (q H2 eN T2)
  subst hv
  have Ih : Inv X pins σ H2 { s2 with heap := h, toks := tk } := I2.kept kb
  obtain ⟨m, hn, hl⟩ := I2.loc
  obtain ⟨u, r, l⟩ := hl i x (.ref a) hN hs (Or.inr (Or.inl hvx))
  obtain rfl : u = Value.ref a := r
  rcases l with ⟨hk', _⟩ | ⟨_, cc, hcc, hcell⟩
  · have hk' : X.env.scope.names.lookup x = some .local := hk'
    rw [hvx] at hk'
    cases hk'
  obtain ⟨z, lo, ws, rel, dd⟩ := dk_rd Ih.hok (Rd.of hd2)
  obtain ⟨w', hw, rw'⟩ := RelO.some_of (v := .int pr.2) (o := valueAt ws (.inl pr.1)) (by have := rel.val (.inl pr.1); rw [pD_val nd (show (pr.1, pr.2) ∈ ps from hp)] at this; exact this)
  obtain ⟨t', rfl⟩ := rw'
  refine look_call (A := X.A.in1.in1) (s := { s2 with heap := h, toks := tk }) (knd := mixKind X.prog X.w) (k := .inl pr.1) (t := t') ?_ (kb _ _ hf) (codeO_at Ih.hok hcO) hk hco hge nocell hy hx (clo_has hfr (PySem.mem_of_lookup hx) hcc) ?_ dd.mapOf ?_ hw Ih.nolimit (fun _ _ _ => hbind _ _ _ _ _ _) dx dy cdx
  · have := hr.dp
    show X.A.depth < _
    omega
  · obtain ⟨o, h1, h2⟩ := hcell
    exact ⟨o, kb _ _ h1, h2⟩
  · exact kV_is (k := .inl pr.1) ⟨t, rfl⟩
end
/-- a def whose code object is known: it makes a lambda -/
structure FunC (K : PySem.W.Frag) (x qual : Str) (st : Stmt) (f : Addr) (fd : FuncData) (c : Addr) : Prop where
  ex : ∃ (oc : Value) (od : Option Addr) (kV doc pm : Value) (an : Option Addr) (ct : Value) (osl : Array (Option Value)),
    fd = PySem.W.fnOf x qual (defArgs st) (defBody st) (defScope st) .none kV doc pm an (.ref c) ct ∧ K.lookup f = some ⟨oc, od, .func fd, osl⟩ ∧ PySem.W.codeIn K (.ref c) qual = true
theorem FunC.ok {P : Program} {w : World} {K : PySem.W.Frag} {mg : Str → Option Value} {base : Heap} {x qual : Str} {st : Stmt} {f c : Addr} {fd : FuncData} {N ps : List Str} {k : Nat} {sp : Sp} (F : FunC K x qual st f fd c) (S : FnScope N ps (defScope st)) (len : ∀ vs H Q E, sp vs H Q E → vs.length = ps.length)
    (hbody : ∀ (A : Around) (outer : List Env) (s : Shared) (H : Hp) (vs : List V) (Q : VK) (E : XK), Room k (A.deeper (envOfC qual (defScope st) s.heap.objs.size f (.ref c))) → sp vs H Q E →
      ∃ t, PSs (cxOf CX0 P w K mg base N qual (defScope st) f (.ref c) A outer s H E).nox (defBody st) t ∧ t { nx := fun _ H' => Q .non H', rt := Q } (L2.start N vs) H) : FnOk P w K mg base CX0 (k + 1) f fd ps sp := by
  obtain ⟨oc, od, kV, doc, pm, an, ct, osl, rfl, lk, hcd⟩ := F.ex
  refine fn_of lk hcd S len fun A outer s H vs Q E hr hsp => ?_
  obtain ⟨t, h, q⟩ := hbody A outer s H vs Q E hr hsp
  exact ⟨t, h.nox, q⟩
end LX
/-! {number for .. in ..}: comprehensions of sets of numbers, and how many numbers a set holds -/
namespace LX
open PySem PySem.Spec PyProof.Rows L2 PpSet
section
variable {X : Cx}
/-- {elt for target in iter if ..}: D the new set, told by ini as it starts; R the rule of its add -/
def tSg (ini : Addr → HO) (R : V → List V → Hp → VK → Prop) (wi : TI) (g : TG) (tt : TT) (te : TE) (vs : List Nat) : TE := fun σ H Q => wi σ H fun J H1 => ∀ D, H1 D = none → ∃ W : Nat → Nat → Hp → Prop, (∃ m, W 0 m (upd H1 D (ini D))) ∧ ∀ i m H, W i m H →
  (J.stop i H ∧ Q (.ref D) H) ∨ (J.go i H ∧ ∃ Nx : Hp → Prop, (∀ H', Nx H' → ∃ m', m' < m ∧ W (i + 1) m' H') ∧ ∀ x H', J.yld i H x H' → g x (wipe σ vs) H' fun σ2 H2 => wipe σ2 vs = wipe σ vs ∧ tt σ2 H2 fun b H3 =>
    if b = true then te σ2 H3 fun y H4 => R (.ref D) [y] H4 fun _ H5 => Nx H5 else Nx H3)
/-- what a kind of set must offer -/
structure SetKd (X : Cx) (ini : Addr → HO) (R : V → List V → Hp → VK → Prop) : Prop where
  new : ∀ (H : Hp) (h : Heap), ObjOk X.prog X.w H (h.push { cls := .type "set", dict := none, data := .set #[] 0 (.fresh 0 0 (!X.w.params.followText "set-order")) }) h.objs.size (ini h.objs.size)
  add : ∀ Y : Cx, Y.prog = X.prog → Y.w = X.w → MtR Y "set.add" R
theorem intKd (X : Cx) : SetKd X (fun D => SetO X.w D (fun _ => false) 0) (rSAdd X.w) := ⟨fun H h => setO_new (setR_fresh X.w), fun Y _ e => by rw [← e]; exact mt_sadd⟩
theorem sg_core {ini : Addr → HO} {R : V → List V → Hp → VK → Prop} {pins : List (Addr × Obj)} {s : Shared} {σ : L2.St} {H : Hp} {Q : VK} {elt tg iter : Expr} {ifs : List Expr} {scope : Scope} {own : List (PySem.Str × Nat)} {pos pos' : Pos} {wi : TI} {g : TG} {tt : TT} {te : TE} {use : Option (Value → Sem Unit)} {Qf : Value → Shared → Prop}
    (KD : SetKd X ini R) (hc : X.calm = true) (hN : X.N.Nodup) (I : Inv X pins σ H s) (hi : PI X tg iter wi) (ok : BlkOk X.N X.env.scope scope own)
    (hg : ∀ (s : Shared) (H : Hp) (C : Addr) (cl : List (PySem.Str × Addr)) (fp : List Addr), PG (X.blk s H scope (compEnvC scope cl C X.env) fp) tg g) (ht : ∀ (s : Shared) (H : Hp) (C : Addr) (cl : List (PySem.Str × Addr)) (fp : List Addr), PTs (X.blk s H scope (compEnvC scope cl C X.env) fp) ifs tt)
    (he : ∀ (s : Shared) (H : Hp) (C : Addr) (cl : List (PySem.Str × Addr)) (fp : List Addr), PE (X.blk s H scope (compEnvC scope cl C X.env) fp) elt te) (hs : ∀ x, foldedSetIterable iter X.env x = pure x)
    (h : tSg ini R wi g tt te (own.map (·.2)) σ H Q)
    (hRR : ∀ D C s' m H', Inv X pins σ H' s' → Q (.ref D) H' → s'.heap.Ns C m → FpOk X pins H' C → compPost (model X.prog X.w) X.A X.xe use Qf (.ref D) C (.ok .next) s') :
    wpAny (model X.prog X.w) X.A (comprehension (.SetComp elt [⟨tg, iter, ifs, 0⟩] scope pos) scope X.env pos' (newSet (.type "set")) false (eval iter X.env) use) Qf X.xe s := by
  have hfree : ∀ y ∈ scope.names, y.2 = .free → ∃ c, X.env.cells.lookup y.1 = some c := fun y hy e => by
    rcases ok.free y hy e with k | k
    · exact I.ok.has _ (.inl k)
    · exact I.ok.has _ (.inr k)
  refine wpAny_comprehension_free (use := use) rfl hs (closure_ok hfree) ok.kind (fun y hy e => by rw [ok.uniq y hy, e])
    (thn (hi.run pins s σ H _ I h) fun xv s1 hx => thn hx fun itv s2 h2 => ?_)
  obtain ⟨it, fp, tn, J, H2, e, I2, T, st2, f2, q⟩ := h2
  subst e
  refine newSet_ok (newEnv_comp ?_)
  generalize hD : s2.heap.objs.size = D
  have hDn : H2 D = none := I2.hok.fresh (Nat.le_of_eq hD)
  obtain ⟨W, ⟨m0, w0⟩, turn⟩ := q D hDn
  -- the new list
  generalize hs3 : ({ s2 with heap := s2.heap.push { cls := .type "set", dict := none, data := .set #[] 0 (.fresh 0 0 (!X.w.params.followText "set-order")) } } : Shared) = s3
  have I3 : Inv X pins σ (upd H2 D (ini D)) s3 := by
    rw [← hs3]
    refine I2.laid (t' := s2.toks) (fun b o e => Heap.get?_push_of_some _ e) (Nat.le_of_eq hD) ?_
    rw [← hD]
    exact KD.new _ _
  have h3 : s3.heap = s2.heap.push { cls := .type "set", dict := none, data := .set #[] 0 (.fresh 0 0 (!X.w.params.followText "set-order")) } := by rw [← hs3]
  have sz : ∀ b ∈ fp, b < s2.heap.objs.size := fun b hb => by
    obtain ⟨o, e, _⟩ := T.obj _ _ st2 b hb
    exact Heap.lt_size e
  have f3 : ∀ b ∈ fp, FpOk X pins (upd H2 D (ini D)) b ∧ b < s3.heap.objs.size := fun b hb => by
    have hlt := sz b hb
    refine ⟨⟨?_, (f2 b hb).2⟩, by rw [h3, Heap.size_push]; exact Nat.lt_succ_of_lt hlt⟩
    rw [upd_ne (by rw [← hD]; exact Nat.ne_of_lt hlt)]
    exact (f2 b hb).1
  have st3 : tn 0 s3.heap := T.keep _ _ _ st2 fun b _ o e => by rw [h3]; exact Heap.get?_push_of_some _ e
  have I4 := block_start I3 ok hN f3
  have pg := hg s3 (upd H2 D (ini D)) s3.heap.objs.size (cellsFrom (s3.heap.objs.size + 1) scope.names (cloFrom X.env.cells scope.names [])) fp
  have pt := ht s3 (upd H2 D (ini D)) s3.heap.objs.size (cellsFrom (s3.heap.objs.size + 1) scope.names (cloFrom X.env.cells scope.names [])) fp
  have pe := he s3 (upd H2 D (ini D)) s3.heap.objs.size (cellsFrom (s3.heap.objs.size + 1) scope.names (cloFrom X.env.cells scope.names [])) fp
  show codeAny _ _ (.compStart (.SetComp elt [⟨tg, iter, ifs, 0⟩] scope pos) 0 (.ref it) (.ref D) (compEnvC scope (cellsFrom (s3.heap.objs.size + 1) scope.names (cloFrom X.env.cells scope.names [])) s3.heap.objs.size X.env)) (compPost (model X.prog X.w) X.A X.xe use Qf (.ref D) s3.heap.objs.size) { s3 with heap := pushCells (s3.heap.push { cls := .type "dict", data := .dict #[] }) scope.names }
  have nfp : ∀ b ∈ fp, (upd H2 D (ini D)) b = none := fun b hb => (f3 b hb).1.1
  generalize hce : compEnvC scope (cellsFrom (s3.heap.objs.size + 1) scope.names (cloFrom X.env.cells scope.names [])) s3.heap.objs.size X.env = ce at I4 pg pt pe ⊢
  have cL : ce.locals = s3.heap.objs.size := by subst hce; rfl
  generalize hH3 : upd H2 D (ini D) = H3 at I3 I4 pg pt pe w0 nfp f3
  generalize hs4 : ({ s3 with heap := pushCells (s3.heap.push { cls := .type "dict", data := .dict #[] }) scope.names } : Shared) = s4 at I4 ⊢
  have st4 : tn 0 s4.heap := T.keep _ _ _ st3 fun b _ o e => by rw [← hs4]; exact pushCells_keeps _ _ _ _ (Heap.get?_push_of_some _ e)
  have stat : ∀ {σ' : L2.St} {H' : Hp} {s' : Shared}, Inv (X.blk s3 H3 scope ce fp) [] σ' H' s' → (∀ b ∈ fp, H' b = none) → ∀ b ∈ fp, FpOk (X.blk s3 H3 scope ce fp) [] H' b := fun {σ' H' s'} I' hn b hb =>
    ⟨hn b hb, (I'.ok.exf b hb).1, I'.ok.exfs b hb, .inl hb, fun x c e => (I'.ok.exf b hb).2 x c e, fun p hp => absurd (show p ∈ ([] : List (Addr × Obj)) ++ [] from hp) (by simp)⟩
  have loop : codeAny (model X.prog X.w) X.A (.compLoop (.SetComp elt [⟨tg, iter, ifs, 0⟩] scope pos) 0 (.ref it) (.ref D) ce) (compPost (model X.prog X.w) X.A X.xe use Qf (.ref D) s3.heap.objs.size) s4 := by
    refine compLoopS_any (fun n s' => ∃ i H', Inv (X.blk s3 H3 scope ce fp) [] (wipe σ (own.map (·.2))) H' s' ∧ tn i s'.heap ∧ (∀ b ∈ fp, H' b = none) ∧ W i n H') ?_ m0 ⟨0, H3, I4, st4, nfp, w0⟩
    rintro n s5 ⟨i, H5, I5, st5, n5, w5⟩
    rcases turn i n H5 w5 with ⟨stop, qq⟩ | ⟨go, Nx, hNx, step⟩
    · have td := T.done (X.blk s3 H3 scope ce fp) rfl rfl rfl hc i [] s5 _ H5 (fun _ _ => False) I5 (stat I5 n5) st5 stop
      refine thnF td fun r s6 ⟨hr, I6⟩ => ?_
      subst hr
      -- back in the def's context
      have I7 : Inv X pins σ H5 s6 := I3.call' (ch := fp) I6.os I6.base I6.hok I6.bare fun b hb => ⟨(f3 b hb).1.2.2.2.1, (f3 b hb).1.2.1, (f3 b hb).1.2.2.2.2.1, (f3 b hb).1.2.2.2.2.2⟩
      have nC : H5 s3.heap.objs.size = none := by
        have z : H5 ce.locals = none := I6.free
        rw [cL] at z
        exact z
      obtain ⟨m, hn, _⟩ := I6.loc
      have hn : s6.heap.Ns ce.locals m := hn
      rw [cL] at hn
      exact hRR D s3.heap.objs.size s6 m H5 I7 qq hn (I3.fpOk (Nat.le_refl _) nC)
    · have ti := T.item (X.blk s3 H3 scope ce fp) rfl rfl rfl hc i [] s5 _ H5 (fun _ _ => False) I5 (stat I5 n5) st5 go
      refine thnF ti fun r s6 ⟨u, hr, h6⟩ => ?_
      subst hr
      refine thnF h6 fun _ s7 ⟨x, H7, I7, r7, y7, st7, n7⟩ => ?_
      have I7' := I7.pinned (stat I7 n7) (T.obj _ _ st7)
      refine thnF (pg.run _ s7 _ H7 x u _ I7' r7 (step x H7 y7)) fun _ s8 ⟨σ8, H8, I8, hw8, q8⟩ => ?_
      refine thnF (pt.run _ s8 σ8 H8 _ I8 q8) fun b s9 ⟨H9, I9, q9⟩ => ?_
      -- the turn's end
      have fin : ∀ {s' : Shared} {H' : Hp}, Inv (X.blk s3 H3 scope ce fp) ([] ++ pinsAt fp s7.heap) σ8 H' s' → Nx H' → ∃ m, m < n ∧ ∃ i H', Inv (X.blk s3 H3 scope ce fp) [] (wipe σ (own.map (·.2))) H' s' ∧ tn i s'.heap ∧ (∀ b ∈ fp, H' b = none) ∧ W i m H' := fun {s' H'} I' nx => by
        obtain ⟨m', hm, w'⟩ := hNx H' nx
        have pin' : ∀ b ∈ fp, ∀ o, s7.heap.get? b = some o → s'.heap.get? b = some o ∧ H' b = none := fun b hb o e =>
          let z := I'.pin (b, o) (List.mem_append_right _ (List.mem_append_right _ (mem_pinsAt hb e)))
          ⟨z.1, z.2.1⟩
        have hl : (wipe σ (own.map (·.2))).length = σ8.length := by rw [← hw8, wipe_length]
        refine ⟨m', hm, i + 1, H', (I'.unpinned (pins := [])).weak hl (fun j v e => ?_), T.keep _ _ _ st7 fun b hb o e => (pin' b hb o e).1, fun b hb => ?_, w'⟩
        · rw [← hw8] at e
          exact (wipe_some e).1
        · obtain ⟨o, e, _⟩ := T.obj _ _ st7 b hb
          exact (pin' b hb o e).2
      cases b with
      | false =>
        simp only [Bool.false_eq_true, if_false] at q9 ⊢
        exact fin I9 q9
      | true =>
        simp only [if_true] at q9 ⊢
        refine thnF (pe.run _ s9 σ8 H9 _ I9 q9) fun z s10 ⟨yv, H10, I10, r10, nx⟩ => ?_
        exact thnF (KD.add (X.blk s3 H3 scope ce fp) rfl rfl _ s10 σ8 H10 (.ref D) [yv] (.ref D) [z] _ I10 rfl (.cons r10 .nil) nx) fun _ s11 ⟨_, H11, I11, _, nx⟩ => fin I11 nx
  exact codeAny_compStart_set loop (T.self X.A 0 _ _ _ st4 loop)
theorem pe_sg {ini : Addr → HO} {R : V → List V → Hp → VK → Prop} {elt tg iter : Expr} {ifs : List Expr} {scope : Scope} {own : List (PySem.Str × Nat)} {pos : Pos} {wi : TI} {g : TG} {tt : TT} {te : TE} (KD : SetKd X ini R) (hc : X.calm = true) (hN : X.N.Nodup) (hi : PI X tg iter wi) (ok : BlkOk X.N X.env.scope scope own)
    (hg : ∀ (s : Shared) (H : Hp) (C : Addr) (cl : List (PySem.Str × Addr)) (fp : List Addr), PG (X.blk s H scope (compEnvC scope cl C X.env) fp) tg g) (ht : ∀ (s : Shared) (H : Hp) (C : Addr) (cl : List (PySem.Str × Addr)) (fp : List Addr), PTs (X.blk s H scope (compEnvC scope cl C X.env) fp) ifs tt)
    (he : ∀ (s : Shared) (H : Hp) (C : Addr) (cl : List (PySem.Str × Addr)) (fp : List Addr), PE (X.blk s H scope (compEnvC scope cl C X.env) fp) elt te) (hs : ∀ x, foldedSetIterable iter X.env x = pure x := by intro _; rfl) :
    PE X (.SetComp elt [⟨tg, iter, ifs, 0⟩] scope pos) (tSg ini R wi g tt te (own.map (·.2))) := by
  refine ⟨fun pins s σ H Q I h => ?_⟩
  rw [eval_SetComp]
  refine sg_core KD hc hN I hi ok hg ht he hs h fun D C s' m H' I' q hn f => ⟨m, hn, fun h'' sb => ?_⟩
  obtain ⟨f0, f1, f2, f3, f4, f5⟩ := f
  exact ⟨.ref D, H', I'.turned (t' := s'.toks) (fun b o hb e => (sb.2 b hb).trans e) f0 f1 f3 f4 f5, rfl, q⟩
/-- len of a set of numbers -/
def tLenO (w : World) (ta : TE) : TE := fun σ H Q => ta σ H fun x H1 => ∃ (a : Addr) (S : Int → Bool) (n : Nat), x = .ref a ∧ H1 a = some (SetO w a S n) ∧ n ≤ 4000 ∧ Q (.int (n : Nat)) H1
theorem pe_lenO {a : Expr} {ta : TE} {p pos : Pos} (hg : Gl X "len") (hm : X.mg "len" = none) (ha : PE X a ta)
    (na : starEach [a] X.env = (false, eval a X.env) :: starEach [] X.env := by rfl) : PE X (.Call (.Name "len" p) [a] [] pos) (tLenO X.w ta) := by
  refine ⟨fun pins s σ H Q I h => ?_⟩
  refine Call_ (ld_blt I hg hm boot_len ?_)
  refine PyProof.Rows.callWith_builtin1 (PyProof.Rows.args_cons (thn (ha.run pins s σ H _ I h) fun v s1 ⟨x, H1, I1, r1, q1⟩ => PyProof.Rows.args_nil ?_) na) na rfl
  obtain ⟨l, S, n, rfl, hq, hl, q1⟩ := q1
  cases r1
  have hS : s1.heap.SetOf (intKind X.prog X.w) l S n := (setO_get I1 hq).setOf
  obtain ⟨o, es, ep, t, ho, hex, hd, _, _, _, hf, hn⟩ := hS
  exact call_len_set ho hex hd hf (by omega) ⟨.int n, H1, I1.tok _, ⟨_, by rw [hn]⟩, q1⟩
end
end LX
namespace LX
open PySem PySem.Spec PyProof.Rows L2 NdefX
def top (i : Nat) : Stmt := PySem.Challenge.pw_saggar_k67_verdicts_and_their_judge.main.body.getD i (.Pass ⟨0, 0, 0, 0⟩)
abbrev s_is_ref : Stmt := top 9
abbrev N_is_ref : List Str := ["word"]
theorem sc_is_ref : FnScope N_is_ref ["word"] (defScope s_is_ref) := ⟨rfl, rfl, rfl, by decide +kernel, rfl, by decide +kernel, by decide +kernel⟩
abbrev s_ref_of : Stmt := top 10
abbrev N_ref_of : List Str := ["word"]
theorem sc_ref_of : FnScope N_ref_of ["word"] (defScope s_ref_of) := ⟨rfl, rfl, rfl, by decide +kernel, rfl, by decide +kernel, by decide +kernel⟩
abbrev s_reached : Stmt := top 12
abbrev N_reached : List Str := ["store", "roots", "found", "waiting", "word", "number"]
theorem sc_reached : FnScope N_reached ["store", "roots"] (defScope s_reached) := ⟨rfl, rfl, rfl, by decide +kernel, rfl, by decide +kernel, by decide +kernel⟩
abbrev s_collect : Stmt := top 13
abbrev N_collect : List Str := ["store", "roots", "found", "gone", "number"]
theorem sc_collect : FnScope N_collect ["store", "roots"] (defScope s_collect) := ⟨rfl, rfl, rfl, by decide +kernel, rfl, by decide +kernel, by decide +kernel⟩
abbrev s_object_of : Stmt := top 16
abbrev N_object_of : List Str := ["space", "word"]
theorem sc_object_of : FnScope N_object_of ["space", "word"] (defScope s_object_of) := ⟨rfl, rfl, rfl, by decide +kernel, rfl, by decide +kernel, by decide +kernel⟩
abbrev s_row_of : Stmt := top 17
abbrev N_row_of : List Str := ["space", "number"]
theorem sc_row_of : FnScope N_row_of ["space", "number"] (defScope s_row_of) := ⟨rfl, rfl, rfl, by decide +kernel, rfl, by decide +kernel, by decide +kernel⟩
abbrev s_word_at : Stmt := top 18
abbrev N_word_at : List Str := ["space", "path", "row", "word", "k", "number"]
theorem sc_word_at : FnScope N_word_at ["space", "path"] (defScope s_word_at) := ⟨rfl, rfl, rfl, by decide +kernel, rfl, by decide +kernel, by decide +kernel⟩
abbrev s_Comparison___init__ : Stmt := inClass (top 20) 0
abbrev N_Comparison___init__ : List Str := ["self", "one", "other"]
theorem sc_Comparison___init__ : FnScope N_Comparison___init__ ["self", "one", "other"] (defScope s_Comparison___init__) := ⟨rfl, rfl, rfl, by decide +kernel, rfl, by decide +kernel, by decide +kernel⟩
abbrev s_Comparison_clash : Stmt := inClass (top 20) 1
abbrev N_Comparison_clash : List Str := ["self", "number", "match", "path"]
theorem sc_Comparison_clash : FnScope N_Comparison_clash ["self", "number", "match", "path"] (defScope s_Comparison_clash) := ⟨rfl, rfl, rfl, by decide +kernel, rfl, by decide +kernel, by decide +kernel⟩
abbrev s_Comparison_met : Stmt := inClass (top 20) 2
abbrev N_Comparison_met : List Str := ["self", "path", "word", "match", "number", "other", "clash"]
theorem sc_Comparison_met : FnScope N_Comparison_met ["self", "path", "word", "match"] (defScope s_Comparison_met) := ⟨rfl, rfl, rfl, by decide +kernel, rfl, by decide +kernel, by decide +kernel⟩
abbrev s_Comparison_verdict : Stmt := inClass (top 20) 3
abbrev N_Comparison_verdict : List Str := ["self", "waiting", "later", "path", "word", "match", "difference", "more", "number"]
theorem sc_Comparison_verdict : FnScope N_Comparison_verdict ["self"] (defScope s_Comparison_verdict) := ⟨rfl, rfl, rfl, by decide +kernel, rfl, by decide +kernel, by decide +kernel⟩
abbrev s_following : Stmt := top 21
abbrev N_following : List Str := ["path", "row", "other", "k"]
theorem sc_following : FnScope N_following ["path", "row", "other"] (defScope s_following) := ⟨rfl, rfl, rfl, by decide +kernel, rfl, by decide +kernel, by decide +kernel⟩
abbrev s_compare : Stmt := top 22
abbrev N_compare : List Str := ["one", "other"]
theorem sc_compare : FnScope N_compare ["one", "other"] (defScope s_compare) := ⟨rfl, rfl, rfl, by decide +kernel, rfl, by decide +kernel, by decide +kernel⟩
abbrev s_both_at : Stmt := top 23
abbrev N_both_at : List Str := ["one", "other", "path", "word", "match"]
theorem sc_both_at : FnScope N_both_at ["one", "other", "path"] (defScope s_both_at) := ⟨rfl, rfl, rfl, by decide +kernel, rfl, by decide +kernel, by decide +kernel⟩
abbrev s_words_differ : Stmt := top 24
abbrev N_words_differ : List Str := ["one", "other", "path", "found"]
theorem sc_words_differ : FnScope N_words_differ ["one", "other", "path"] (defScope s_words_differ) := ⟨rfl, rfl, rfl, by decide +kernel, rfl, by decide +kernel, by decide +kernel⟩
abbrev s_sizes_differ : Stmt := top 25
abbrev N_sizes_differ : List Str := ["one", "other", "path", "found"]
theorem sc_sizes_differ : FnScope N_sizes_differ ["one", "other", "path"] (defScope s_sizes_differ) := ⟨rfl, rfl, rfl, by decide +kernel, rfl, by decide +kernel, by decide +kernel⟩
abbrev s_sharing_differs : Stmt := top 26
abbrev N_sharing_differs : List Str := ["one", "other", "path", "second", "found", "more"]
theorem sc_sharing_differs : FnScope N_sharing_differs ["one", "other", "path", "second"] (defScope s_sharing_differs) := ⟨rfl, rfl, rfl, by decide +kernel, rfl, by decide +kernel, by decide +kernel⟩
abbrev s_rows_match : Stmt := top 27
abbrev N_rows_match : List Str := ["one", "other", "there", "row", "match", "word", "twin", "number", "number_there"]
theorem sc_rows_match : FnScope N_rows_match ["one", "other", "there", "row", "match"] (defScope s_rows_match) := ⟨rfl, rfl, rfl, by decide +kernel, rfl, by decide +kernel, by decide +kernel⟩
abbrev s_pairs_match : Stmt := top 28
abbrev N_pairs_match : List Str := ["one", "other", "pairs", "there", "number", "match"]
theorem sc_pairs_match : FnScope N_pairs_match ["one", "other", "pairs"] (defScope s_pairs_match) := ⟨rfl, rfl, rfl, by decide +kernel, rfl, by decide +kernel, by decide +kernel⟩
abbrev s_judge : Stmt := top 29
abbrev N_judge : List Str := ["one", "other", "verdict"]
theorem sc_judge : FnScope N_judge ["one", "other", "verdict"] (defScope s_judge) := ⟨rfl, rfl, rfl, by decide +kernel, rfl, by decide +kernel, by decide +kernel⟩
abbrev s_Store___init__ : Stmt := inClass (top 32) 0
abbrev N_Store___init__ : List Str := ["self", "room", "entries"]
theorem sc_Store___init__ : FnScope N_Store___init__ ["self", "room", "entries"] (defScope s_Store___init__) := ⟨rfl, rfl, rfl, by decide +kernel, rfl, by decide +kernel, by decide +kernel⟩
abbrev s_Store_exists : Stmt := inClass (top 32) 2
abbrev N_Store_exists : List Str := ["self", "number"]
theorem sc_Store_exists : FnScope N_Store_exists ["self", "number"] (defScope s_Store_exists) := ⟨rfl, rfl, rfl, by decide +kernel, rfl, by decide +kernel, by decide +kernel⟩
abbrev s_Store_numbers : Stmt := inClass (top 32) 3
abbrev N_Store_numbers : List Str := ["self"]
theorem sc_Store_numbers : FnScope N_Store_numbers ["self"] (defScope s_Store_numbers) := ⟨rfl, rfl, rfl, by decide +kernel, rfl, by decide +kernel, by decide +kernel⟩
abbrev s_Store_free_number : Stmt := inClass (top 32) 4
abbrev N_Store_free_number : List Str := ["self"]
theorem sc_Store_free_number : FnScope N_Store_free_number ["self"] (defScope s_Store_free_number) := ⟨rfl, rfl, rfl, by decide +kernel, rfl, by decide +kernel, by decide +kernel⟩
abbrev s_Store_allocate : Stmt := inClass (top 32) 5
abbrev N_Store_allocate : List Str := ["self", "kind", "size", "number"]
theorem sc_Store_allocate : FnScope N_Store_allocate ["self", "kind", "size"] (defScope s_Store_allocate) := ⟨rfl, rfl, rfl, by decide +kernel, rfl, by decide +kernel, by decide +kernel⟩
abbrev s_Store_size : Stmt := inClass (top 32) 6
abbrev N_Store_size : List Str := ["self", "number"]
theorem sc_Store_size : FnScope N_Store_size ["self", "number"] (defScope s_Store_size) := ⟨rfl, rfl, rfl, by decide +kernel, rfl, by decide +kernel, by decide +kernel⟩
abbrev s_Store_kind : Stmt := inClass (top 32) 7
abbrev N_Store_kind : List Str := ["self", "number"]
theorem sc_Store_kind : FnScope N_Store_kind ["self", "number"] (defScope s_Store_kind) := ⟨rfl, rfl, rfl, by decide +kernel, rfl, by decide +kernel, by decide +kernel⟩
abbrev s_Store_put : Stmt := inClass (top 32) 10
abbrev N_Store_put : List Str := ["self", "number", "at", "word"]
theorem sc_Store_put : FnScope N_Store_put ["self", "number", "at", "word"] (defScope s_Store_put) := ⟨rfl, rfl, rfl, by decide +kernel, rfl, by decide +kernel, by decide +kernel⟩
abbrev s_Store_slots : Stmt := inClass (top 32) 11
abbrev N_Store_slots : List Str := ["self", "number", "place"]
theorem sc_Store_slots : FnScope N_Store_slots ["self", "number"] (defScope s_Store_slots) := ⟨rfl, rfl, rfl, by decide +kernel, rfl, by decide +kernel, by decide +kernel⟩
abbrev s_Store_drop : Stmt := inClass (top 32) 12
abbrev N_Store_drop : List Str := ["self", "number"]
theorem sc_Store_drop : FnScope N_Store_drop ["self", "number"] (defScope s_Store_drop) := ⟨rfl, rfl, rfl, by decide +kernel, rfl, by decide +kernel, by decide +kernel⟩
abbrev s_Store_close_up : Stmt := inClass (top 32) 13
abbrev N_Store_close_up : List Str := ["self", "words", "places", "old", "number", "place"]
theorem sc_Store_close_up : FnScope N_Store_close_up ["self"] (defScope s_Store_close_up) := ⟨rfl, rfl, rfl, by decide +kernel, rfl, by decide +kernel, by decide +kernel⟩
abbrev s_Store_exchange : Stmt := inClass (top 32) 16
abbrev N_Store_exchange : List Str := ["self", "first", "second"]
theorem sc_Store_exchange : FnScope N_Store_exchange ["self", "first", "second"] (defScope s_Store_exchange) := ⟨rfl, rfl, rfl, by decide +kernel, rfl, by decide +kernel, by decide +kernel⟩
abbrev s_Space___init__ : Stmt := inClass (top 35) 0
abbrev N_Space___init__ : List Str := ["self", "room", "entries"]
theorem sc_Space___init__ : FnScope N_Space___init__ ["self", "room", "entries"] (defScope s_Space___init__) := ⟨rfl, rfl, rfl, by decide +kernel, rfl, by decide +kernel, by decide +kernel⟩
abbrev s_Space_set_root : Stmt := inClass (top 35) 3
abbrev N_Space_set_root : List Str := ["self", "k", "word"]
theorem sc_Space_set_root : FnScope N_Space_set_root ["self", "k", "word"] (defScope s_Space_set_root) := ⟨rfl, rfl, rfl, by decide +kernel, rfl, by decide +kernel, by decide +kernel⟩
abbrev s_Space_hold : Stmt := inClass (top 35) 4
abbrev N_Space_hold : List Str := ["self", "word"]
theorem sc_Space_hold : FnScope N_Space_hold ["self", "word"] (defScope s_Space_hold) := ⟨rfl, rfl, rfl, by decide +kernel, rfl, by decide +kernel, by decide +kernel⟩
abbrev s_Space_held : Stmt := inClass (top 35) 6
abbrev N_Space_held : List Str := ["self"]
theorem sc_Space_held : FnScope N_Space_held ["self"] (defScope s_Space_held) := ⟨rfl, rfl, rfl, by decide +kernel, rfl, by decide +kernel, by decide +kernel⟩
abbrev s_Space_all_roots : Stmt := inClass (top 35) 7
abbrev N_Space_all_roots : List Str := ["self"]
theorem sc_Space_all_roots : FnScope N_Space_all_roots ["self"] (defScope s_Space_all_roots) := ⟨rfl, rfl, rfl, by decide +kernel, rfl, by decide +kernel, by decide +kernel⟩
abbrev s_Space_collect : Stmt := inClass (top 35) 8
abbrev N_Space_collect : List Str := ["self"]
theorem sc_Space_collect : FnScope N_Space_collect ["self"] (defScope s_Space_collect) := ⟨rfl, rfl, rfl, by decide +kernel, rfl, by decide +kernel, by decide +kernel⟩
abbrev s_Space_collect_with : Stmt := inClass (top 35) 9
abbrev N_Space_collect_with : List Str := ["self", "word"]
theorem sc_Space_collect_with : FnScope N_Space_collect_with ["self", "word"] (defScope s_Space_collect_with) := ⟨rfl, rfl, rfl, by decide +kernel, rfl, by decide +kernel, by decide +kernel⟩
abbrev s_Space_new : Stmt := inClass (top 35) 11
abbrev N_Space_new : List Str := ["self", "kind", "size"]
theorem sc_Space_new : FnScope N_Space_new ["self", "kind", "size"] (defScope s_Space_new) := ⟨rfl, rfl, rfl, by decide +kernel, rfl, by decide +kernel, by decide +kernel⟩
abbrev s_Space_fitted : Stmt := inClass (top 35) 12
abbrev N_Space_fitted : List Str := ["self", "kind", "size"]
theorem sc_Space_fitted : FnScope N_Space_fitted ["self", "kind", "size"] (defScope s_Space_fitted) := ⟨rfl, rfl, rfl, by decide +kernel, rfl, by decide +kernel, by decide +kernel⟩
abbrev s__law_number : Stmt := top 37
abbrev N__law_number : List Str := ["_law_cell", "_law_k", "_law_mixed"]
theorem sc__law_number : FnScope N__law_number ["_law_cell", "_law_k"] (defScope s__law_number) := ⟨rfl, rfl, rfl, by decide +kernel, rfl, by decide +kernel, by decide +kernel⟩
abbrev s__law_word : Stmt := top 38
abbrev N__law_word : List Str := ["_law_x", "_law_many", "_law_rest"]
theorem sc__law_word : FnScope N__law_word ["_law_x", "_law_many"] (defScope s__law_word) := ⟨rfl, rfl, rfl, by decide +kernel, rfl, by decide +kernel, by decide +kernel⟩
abbrev s__law_is : Stmt := top 39
abbrev N__law_is : List Str := ["_law_actual", "_law_due_here"]
theorem sc__law_is : FnScope N__law_is ["_law_actual", "_law_due_here"] (defScope s__law_is) := ⟨rfl, rfl, rfl, by decide +kernel, rfl, by decide +kernel, by decide +kernel⟩
abbrev s__law_same : Stmt := top 40
abbrev N__law_same : List Str := ["_law_actual", "_law_due_here", "_law_k"]
theorem sc__law_same : FnScope N__law_same ["_law_actual", "_law_due_here"] (defScope s__law_same) := ⟨rfl, rfl, rfl, by decide +kernel, rfl, by decide +kernel, by decide +kernel⟩
abbrev s__law_sizes : Stmt := top 41
abbrev N__law_sizes : List Str := ["_law_x", "_law_count", "_law_rest", "_law_sizes_here", "_law_k", "_law_y"]
theorem sc__law_sizes : FnScope N__law_sizes ["_law_x"] (defScope s__law_sizes) := ⟨rfl, rfl, rfl, by decide +kernel, rfl, by decide +kernel, by decide +kernel⟩
abbrev s__law_rows : Stmt := top 42
abbrev N__law_rows : List Str := ["_law_sizes_here", "_law_x", "_law_rows_here", "_law_rest", "_law_k", "_law_y", "_law_row", "_law_at"]
theorem sc__law_rows : FnScope N__law_rows ["_law_sizes_here", "_law_x"] (defScope s__law_rows) := ⟨rfl, rfl, rfl, by decide +kernel, rfl, by decide +kernel, by decide +kernel⟩
abbrev s__law_roots : Stmt := top 43
abbrev N__law_roots : List Str := ["_law_many", "_law_x", "_law_words", "_law_rest", "_law_k", "_law_y"]
theorem sc__law_roots : FnScope N__law_roots ["_law_many", "_law_x"] (defScope s__law_roots) := ⟨rfl, rfl, rfl, by decide +kernel, rfl, by decide +kernel, by decide +kernel⟩
abbrev s__law_space : Stmt := top 44
abbrev N__law_space : List Str := ["_law_rows_here", "_law_words", "_law_space_here", "_law_k", "_law_at"]
theorem sc__law_space : FnScope N__law_space ["_law_rows_here", "_law_words"] (defScope s__law_space) := ⟨rfl, rfl, rfl, by decide +kernel, rfl, by decide +kernel, by decide +kernel⟩
abbrev s__law_kept : Stmt := top 45
abbrev N__law_kept : List Str := ["_law_space_here", "_law_rows_here", "_law_words", "_law_k", "_law_numbers"]
theorem sc__law_kept : FnScope N__law_kept ["_law_space_here", "_law_rows_here", "_law_words"] (defScope s__law_kept) := ⟨rfl, rfl, rfl, by decide +kernel, rfl, by decide +kernel, by decide +kernel⟩
abbrev s__law_order : Stmt := top 46
abbrev N__law_order : List Str := ["_law_many", "_law_x", "_law_left", "_law_k", "_law_order_here", "_law_rest", "_law_y"]
theorem sc__law_order : FnScope N__law_order ["_law_many", "_law_x"] (defScope s__law_order) := ⟨rfl, rfl, rfl, by decide +kernel, rfl, by decide +kernel, by decide +kernel⟩
abbrev s__law_turned : Stmt := top 47
abbrev N__law_turned : List Str := ["_law_word_here", "_law_order_here", "_law_many"]
theorem sc__law_turned : FnScope N__law_turned ["_law_word_here", "_law_order_here", "_law_many"] (defScope s__law_turned) := ⟨rfl, rfl, rfl, by decide +kernel, rfl, by decide +kernel, by decide +kernel⟩
abbrev s__law_twin : Stmt := top 48
abbrev N__law_twin : List Str := ["_law_rows_here", "_law_words", "_law_order_here", "_law_many", "_law_twins", "_law_number_here", "_law_word_here"]
theorem sc__law_twin : FnScope N__law_twin ["_law_rows_here", "_law_words", "_law_order_here"] (defScope s__law_twin) := ⟨rfl, rfl, rfl, by decide +kernel, rfl, by decide +kernel, by decide +kernel⟩
abbrev s__law_change : Stmt := top 49
abbrev N__law_change : List Str := ["_law_rows_here", "_law_words", "_law_x", "_law_rest", "_law_word_here", "_law_row"]
theorem sc__law_change : FnScope N__law_change ["_law_rows_here", "_law_words", "_law_x"] (defScope s__law_change) := ⟨rfl, rfl, rfl, by decide +kernel, rfl, by decide +kernel, by decide +kernel⟩
abbrev s__law_walk : Stmt := top 50
abbrev N__law_walk : List Str := ["_law_world", "_law_path_here", "_law_row", "_law_word_here", "_law_k"]
theorem sc__law_walk : FnScope N__law_walk ["_law_world", "_law_path_here"] (defScope s__law_walk) := ⟨rfl, rfl, rfl, by decide +kernel, rfl, by decide +kernel, by decide +kernel⟩
abbrev s__law_thing : Stmt := top 51
abbrev N__law_thing : List Str := ["_law_world", "_law_word_here"]
theorem sc__law_thing : FnScope N__law_thing ["_law_world", "_law_word_here"] (defScope s__law_thing) := ⟨rfl, rfl, rfl, by decide +kernel, rfl, by decide +kernel, by decide +kernel⟩
abbrev s__law_rows_fit : Stmt := top 52
abbrev N__law_rows_fit : List Str := ["_law_one", "_law_other", "_law_there", "_law_row", "_law_twin_here", "_law_k", "_law_first", "_law_second"]
theorem sc__law_rows_fit : FnScope N__law_rows_fit ["_law_one", "_law_other", "_law_there", "_law_row", "_law_twin_here"] (defScope s__law_rows_fit) := ⟨rfl, rfl, rfl, by decide +kernel, rfl, by decide +kernel, by decide +kernel⟩
abbrev s__law_pairs_hold : Stmt := top 53
abbrev N__law_pairs_hold : List Str := ["_law_one", "_law_other", "_law_pairs", "_law_there", "_law_back", "_law_pair", "_law_first"]
theorem sc__law_pairs_hold : FnScope N__law_pairs_hold ["_law_one", "_law_other", "_law_pairs"] (defScope s__law_pairs_hold) := ⟨rfl, rfl, rfl, by decide +kernel, rfl, by decide +kernel, by decide +kernel⟩
abbrev s__law_holds : Stmt := top 54
abbrev N__law_holds : List Str := ["_law_one", "_law_other", "_law_verdict_here", "_law_words", "_law_first", "_law_second", "_law_third", "_law_fourth"]
theorem sc__law_holds : FnScope N__law_holds ["_law_one", "_law_other", "_law_verdict_here"] (defScope s__law_holds) := ⟨rfl, rfl, rfl, by decide +kernel, rfl, by decide +kernel, by decide +kernel⟩
abbrev s__law_due : Stmt := top 55
abbrev N__law_due : List Str := ["_law_one", "_law_other", "_law_there", "_law_back", "_law_met", "_law_waiting", "_law_k", "_law_path_here", "_law_first", "_law_second", "_law_row", "_law_at"]
theorem sc__law_due : FnScope N__law_due ["_law_one", "_law_other"] (defScope s__law_due) := ⟨rfl, rfl, rfl, by decide +kernel, rfl, by decide +kernel, by decide +kernel⟩
abbrev s__law_tuple_is : Stmt := top 56
abbrev N__law_tuple_is : List Str := ["_law_told", "_law_due_here", "_law_k"]
theorem sc__law_tuple_is : FnScope N__law_tuple_is ["_law_told", "_law_due_here"] (defScope s__law_tuple_is) := ⟨rfl, rfl, rfl, by decide +kernel, rfl, by decide +kernel, by decide +kernel⟩
abbrev s__law_path : Stmt := top 57
abbrev N__law_path : List Str := ["_law_world", "_law_x", "_law_path_here", "_law_row", "_law_rest", "_law_k", "_law_word_here"]
theorem sc__law_path : FnScope N__law_path ["_law_world", "_law_x"] (defScope s__law_path) := ⟨rfl, rfl, rfl, by decide +kernel, rfl, by decide +kernel, by decide +kernel⟩
abbrev s__law_verdict : Stmt := top 58
abbrev N__law_verdict : List Str := ["_law_one", "_law_other", "_law_pairs", "_law_x", "_law_rest", "_law_form", "_law_changed", "_law_at", "_law_last"]
theorem sc__law_verdict : FnScope N__law_verdict ["_law_one", "_law_other", "_law_pairs", "_law_x"] (defScope s__law_verdict) := ⟨rfl, rfl, rfl, by decide +kernel, rfl, by decide +kernel, by decide +kernel⟩
abbrev s__law_built : Stmt := top 59
abbrev N__law_built : List Str := ["_law_cells", "_law_rows_here", "_law_many", "_law_row", "_law_word_here", "_law_words", "_law_order_here", "_law_twins", "_law_x", "_law_k"]
theorem sc__law_built : FnScope N__law_built ["_law_cells"] (defScope s__law_built) := ⟨rfl, rfl, rfl, by decide +kernel, rfl, by decide +kernel, by decide +kernel⟩
abbrev s_law : Stmt := top 60
abbrev N_law : List Str := ["_law_script", "_law_cells", "_law_cell", "_law_built_here", "_law_one", "_law_other", "_law_first", "_law_second", "_law_due_here", "_law_told", "_law_pairs", "_law_k", "_law_verdicts", "_law_x", "_law_verdict_here", "_law_holds_here"]
theorem sc_law : FnScope N_law ["_law_script"] (defScope s_law) := ⟨rfl, rfl, rfl, by decide +kernel, rfl, by decide +kernel, by decide +kernel⟩
structure Wd (P : Program) (K : PySem.W.Frag) (mg : Str → Option Value) where
  n_all : mg "all" = none
  n_bool : mg "bool" = none
  n_int : mg "int" = none
  n_isinstance : mg "isinstance" = none
  n_len : mg "len" = none
  n_list : mg "list" = none
  n_min : mg "min" = none
  n_range : mg "range" = none
  n_sorted : mg "sorted" = none
  n_str : mg "str" = none
  n_tuple : mg "tuple" = none
  n_zip : mg "zip" = none
  t_NIL : Tok
  g_NIL : mg "NIL" = some (.int (0) t_NIL)
  t_HEADER : Tok
  g_HEADER : mg "HEADER" = some (.int (3) t_HEADER)
  t_ROOTS : Tok
  g_ROOTS : mg "ROOTS" = some (.int (16) t_ROOTS)
  c_Comparison : Addr
  g_Comparison : mg "Comparison" = some (.ref c_Comparison)
  C_Comparison : Cls K c_Comparison
  na_Comparison_one : NoAttr K c_Comparison "one"
  na_Comparison_other : NoAttr K c_Comparison "other"
  na_Comparison_there : NoAttr K c_Comparison "there"
  na_Comparison_back : NoAttr K c_Comparison "back"
  na_Comparison_first : NoAttr K c_Comparison "first"
  c_Store : Addr
  g_Store : mg "Store" = some (.ref c_Store)
  C_Store : Cls K c_Store
  na_Store_room : NoAttr K c_Store "room"
  na_Store_entries : NoAttr K c_Store "entries"
  na_Store_words : NoAttr K c_Store "words"
  na_Store__places : NoAttr K c_Store "_places"
  na_Store__least : NoAttr K c_Store "_least"
  c_Space : Addr
  g_Space : mg "Space" = some (.ref c_Space)
  C_Space : Cls K c_Space
  na_Space_store : NoAttr K c_Space "store"
  na_Space_pressure : NoAttr K c_Space "pressure"
  na_Space_always : NoAttr K c_Space "always"
  na_Space_allocations : NoAttr K c_Space "allocations"
  na_Space_collections : NoAttr K c_Space "collections"
  na_Space__roots : NoAttr K c_Space "_roots"
  na_Space__held : NoAttr K c_Space "_held"
  na_Space__saved : NoAttr K c_Space "_saved"
  f_is_ref : Addr
  fd_is_ref : FuncData
  F_is_ref : Fun K "is_ref" "is_ref" s_is_ref f_is_ref fd_is_ref
  g_is_ref : mg "is_ref" = some (.ref f_is_ref)
  b_is_ref : Binds K fd_is_ref ["word"] []
  f_ref_of : Addr
  fd_ref_of : FuncData
  F_ref_of : Fun K "ref_of" "ref_of" s_ref_of f_ref_of fd_ref_of
  g_ref_of : mg "ref_of" = some (.ref f_ref_of)
  b_ref_of : Binds K fd_ref_of ["word"] []
  f_reached : Addr
  fd_reached : FuncData
  F_reached : Fun K "reached" "reached" s_reached f_reached fd_reached
  g_reached : mg "reached" = some (.ref f_reached)
  b_reached : Binds K fd_reached ["store", "roots"] []
  f_collect : Addr
  fd_collect : FuncData
  F_collect : Fun K "collect" "collect" s_collect f_collect fd_collect
  g_collect : mg "collect" = some (.ref f_collect)
  b_collect : Binds K fd_collect ["store", "roots"] []
  f_object_of : Addr
  fd_object_of : FuncData
  F_object_of : Fun K "object_of" "object_of" s_object_of f_object_of fd_object_of
  g_object_of : mg "object_of" = some (.ref f_object_of)
  b_object_of : Binds K fd_object_of ["space", "word"] []
  f_row_of : Addr
  fd_row_of : FuncData
  F_row_of : Fun K "row_of" "row_of" s_row_of f_row_of fd_row_of
  g_row_of : mg "row_of" = some (.ref f_row_of)
  b_row_of : Binds K fd_row_of ["space", "number"] []
  f_word_at : Addr
  fd_word_at : FuncData
  F_word_at : Fun K "word_at" "word_at" s_word_at f_word_at fd_word_at
  g_word_at : mg "word_at" = some (.ref f_word_at)
  b_word_at : Binds K fd_word_at ["space", "path"] []
  f_Comparison___init__ : Addr
  fd_Comparison___init__ : FuncData
  F_Comparison___init__ : Fun K "__init__" "Comparison.__init__" s_Comparison___init__ f_Comparison___init__ fd_Comparison___init__
  M_Comparison : Mk K c_Comparison f_Comparison___init__
  b_Comparison___init__ : Binds K fd_Comparison___init__ ["self", "one", "other"] []
  f_Comparison_clash : Addr
  fd_Comparison_clash : FuncData
  F_Comparison_clash : Fun K "clash" "Comparison.clash" s_Comparison_clash f_Comparison_clash fd_Comparison_clash
  m_Comparison_clash : Meth K c_Comparison "clash" f_Comparison_clash
  b_Comparison_clash : Binds K fd_Comparison_clash ["self", "number", "match", "path"] []
  f_Comparison_met : Addr
  fd_Comparison_met : FuncData
  F_Comparison_met : Fun K "met" "Comparison.met" s_Comparison_met f_Comparison_met fd_Comparison_met
  m_Comparison_met : Meth K c_Comparison "met" f_Comparison_met
  b_Comparison_met : Binds K fd_Comparison_met ["self", "path", "word", "match"] []
  f_Comparison_verdict : Addr
  fd_Comparison_verdict : FuncData
  F_Comparison_verdict : Fun K "verdict" "Comparison.verdict" s_Comparison_verdict f_Comparison_verdict fd_Comparison_verdict
  m_Comparison_verdict : Meth K c_Comparison "verdict" f_Comparison_verdict
  b_Comparison_verdict : Binds K fd_Comparison_verdict ["self"] []
  f_following : Addr
  fd_following : FuncData
  F_following : Fun K "following" "following" s_following f_following fd_following
  g_following : mg "following" = some (.ref f_following)
  b_following : Binds K fd_following ["path", "row", "other"] []
  f_compare : Addr
  fd_compare : FuncData
  F_compare : Fun K "compare" "compare" s_compare f_compare fd_compare
  g_compare : mg "compare" = some (.ref f_compare)
  b_compare : Binds K fd_compare ["one", "other"] []
  f_both_at : Addr
  fd_both_at : FuncData
  F_both_at : Fun K "both_at" "both_at" s_both_at f_both_at fd_both_at
  g_both_at : mg "both_at" = some (.ref f_both_at)
  b_both_at : Binds K fd_both_at ["one", "other", "path"] []
  f_words_differ : Addr
  fd_words_differ : FuncData
  F_words_differ : Fun K "words_differ" "words_differ" s_words_differ f_words_differ fd_words_differ
  g_words_differ : mg "words_differ" = some (.ref f_words_differ)
  b_words_differ : Binds K fd_words_differ ["one", "other", "path"] []
  f_sizes_differ : Addr
  fd_sizes_differ : FuncData
  F_sizes_differ : Fun K "sizes_differ" "sizes_differ" s_sizes_differ f_sizes_differ fd_sizes_differ
  g_sizes_differ : mg "sizes_differ" = some (.ref f_sizes_differ)
  b_sizes_differ : Binds K fd_sizes_differ ["one", "other", "path"] []
  f_sharing_differs : Addr
  fd_sharing_differs : FuncData
  F_sharing_differs : Fun K "sharing_differs" "sharing_differs" s_sharing_differs f_sharing_differs fd_sharing_differs
  g_sharing_differs : mg "sharing_differs" = some (.ref f_sharing_differs)
  b_sharing_differs : Binds K fd_sharing_differs ["one", "other", "path", "second"] []
  f_rows_match : Addr
  fd_rows_match : FuncData
  F_rows_match : Fun K "rows_match" "rows_match" s_rows_match f_rows_match fd_rows_match
  g_rows_match : mg "rows_match" = some (.ref f_rows_match)
  b_rows_match : Binds K fd_rows_match ["one", "other", "there", "row", "match"] []
  f_pairs_match : Addr
  fd_pairs_match : FuncData
  F_pairs_match : Fun K "pairs_match" "pairs_match" s_pairs_match f_pairs_match fd_pairs_match
  g_pairs_match : mg "pairs_match" = some (.ref f_pairs_match)
  b_pairs_match : Binds K fd_pairs_match ["one", "other", "pairs"] []
  f_judge : Addr
  fd_judge : FuncData
  F_judge : Fun K "judge" "judge" s_judge f_judge fd_judge
  g_judge : mg "judge" = some (.ref f_judge)
  b_judge : Binds K fd_judge ["one", "other", "verdict"] []
  f_Store___init__ : Addr
  fd_Store___init__ : FuncData
  F_Store___init__ : Fun K "__init__" "Store.__init__" s_Store___init__ f_Store___init__ fd_Store___init__
  M_Store : Mk K c_Store f_Store___init__
  b_Store___init__ : Binds K fd_Store___init__ ["self", "room", "entries"] []
  f_Store_exists : Addr
  fd_Store_exists : FuncData
  F_Store_exists : Fun K "exists" "Store.exists" s_Store_exists f_Store_exists fd_Store_exists
  m_Store_exists : Meth K c_Store "exists" f_Store_exists
  b_Store_exists : Binds K fd_Store_exists ["self", "number"] []
  f_Store_numbers : Addr
  fd_Store_numbers : FuncData
  F_Store_numbers : Fun K "numbers" "Store.numbers" s_Store_numbers f_Store_numbers fd_Store_numbers
  m_Store_numbers : Meth K c_Store "numbers" f_Store_numbers
  b_Store_numbers : Binds K fd_Store_numbers ["self"] []
  f_Store_free_number : Addr
  fd_Store_free_number : FuncData
  F_Store_free_number : Fun K "free_number" "Store.free_number" s_Store_free_number f_Store_free_number fd_Store_free_number
  m_Store_free_number : Meth K c_Store "free_number" f_Store_free_number
  b_Store_free_number : Binds K fd_Store_free_number ["self"] []
  f_Store_allocate : Addr
  fd_Store_allocate : FuncData
  F_Store_allocate : Fun K "allocate" "Store.allocate" s_Store_allocate f_Store_allocate fd_Store_allocate
  m_Store_allocate : Meth K c_Store "allocate" f_Store_allocate
  b_Store_allocate : Binds K fd_Store_allocate ["self", "kind", "size"] []
  f_Store_size : Addr
  fd_Store_size : FuncData
  F_Store_size : Fun K "size" "Store.size" s_Store_size f_Store_size fd_Store_size
  m_Store_size : Meth K c_Store "size" f_Store_size
  b_Store_size : Binds K fd_Store_size ["self", "number"] []
  f_Store_kind : Addr
  fd_Store_kind : FuncData
  F_Store_kind : Fun K "kind" "Store.kind" s_Store_kind f_Store_kind fd_Store_kind
  m_Store_kind : Meth K c_Store "kind" f_Store_kind
  b_Store_kind : Binds K fd_Store_kind ["self", "number"] []
  f_Store_put : Addr
  fd_Store_put : FuncData
  F_Store_put : Fun K "put" "Store.put" s_Store_put f_Store_put fd_Store_put
  m_Store_put : Meth K c_Store "put" f_Store_put
  b_Store_put : Binds K fd_Store_put ["self", "number", "at", "word"] []
  f_Store_slots : Addr
  fd_Store_slots : FuncData
  F_Store_slots : Fun K "slots" "Store.slots" s_Store_slots f_Store_slots fd_Store_slots
  m_Store_slots : Meth K c_Store "slots" f_Store_slots
  b_Store_slots : Binds K fd_Store_slots ["self", "number"] []
  f_Store_drop : Addr
  fd_Store_drop : FuncData
  F_Store_drop : Fun K "drop" "Store.drop" s_Store_drop f_Store_drop fd_Store_drop
  m_Store_drop : Meth K c_Store "drop" f_Store_drop
  b_Store_drop : Binds K fd_Store_drop ["self", "number"] []
  f_Store_close_up : Addr
  fd_Store_close_up : FuncData
  cA_Store_close_up : Addr
  PT_Store_close_up : Addr
  hd_Store_close_up : PySem.W.codeHdIn K cA_Store_close_up PT_Store_close_up = true
  np_Store_close_up : K.lookup PT_Store_close_up = none
  G_Store_close_up : FunC K "close_up" "Store.close_up" s_Store_close_up f_Store_close_up fd_Store_close_up cA_Store_close_up
  F_Store_close_up : Fun K "close_up" "Store.close_up" s_Store_close_up f_Store_close_up fd_Store_close_up
  m_Store_close_up : Meth K c_Store "close_up" f_Store_close_up
  b_Store_close_up : Binds K fd_Store_close_up ["self"] []
  f_Store_exchange : Addr
  fd_Store_exchange : FuncData
  F_Store_exchange : Fun K "exchange" "Store.exchange" s_Store_exchange f_Store_exchange fd_Store_exchange
  m_Store_exchange : Meth K c_Store "exchange" f_Store_exchange
  b_Store_exchange : Binds K fd_Store_exchange ["self", "first", "second"] []
  f_Space___init__ : Addr
  fd_Space___init__ : FuncData
  F_Space___init__ : Fun K "__init__" "Space.__init__" s_Space___init__ f_Space___init__ fd_Space___init__
  M_Space : Mk K c_Space f_Space___init__
  b_Space___init__ : Binds K fd_Space___init__ ["self", "room", "entries"] []
  f_Space_set_root : Addr
  fd_Space_set_root : FuncData
  F_Space_set_root : Fun K "set_root" "Space.set_root" s_Space_set_root f_Space_set_root fd_Space_set_root
  m_Space_set_root : Meth K c_Space "set_root" f_Space_set_root
  b_Space_set_root : Binds K fd_Space_set_root ["self", "k", "word"] []
  f_Space_hold : Addr
  fd_Space_hold : FuncData
  F_Space_hold : Fun K "hold" "Space.hold" s_Space_hold f_Space_hold fd_Space_hold
  m_Space_hold : Meth K c_Space "hold" f_Space_hold
  b_Space_hold : Binds K fd_Space_hold ["self", "word"] []
  f_Space_held : Addr
  fd_Space_held : FuncData
  F_Space_held : Fun K "held" "Space.held" s_Space_held f_Space_held fd_Space_held
  m_Space_held : Meth K c_Space "held" f_Space_held
  b_Space_held : Binds K fd_Space_held ["self"] []
  f_Space_all_roots : Addr
  fd_Space_all_roots : FuncData
  F_Space_all_roots : Fun K "all_roots" "Space.all_roots" s_Space_all_roots f_Space_all_roots fd_Space_all_roots
  m_Space_all_roots : Meth K c_Space "all_roots" f_Space_all_roots
  b_Space_all_roots : Binds K fd_Space_all_roots ["self"] []
  f_Space_collect : Addr
  fd_Space_collect : FuncData
  F_Space_collect : Fun K "collect" "Space.collect" s_Space_collect f_Space_collect fd_Space_collect
  m_Space_collect : Meth K c_Space "collect" f_Space_collect
  b_Space_collect : Binds K fd_Space_collect ["self"] []
  f_Space_collect_with : Addr
  fd_Space_collect_with : FuncData
  F_Space_collect_with : Fun K "collect_with" "Space.collect_with" s_Space_collect_with f_Space_collect_with fd_Space_collect_with
  m_Space_collect_with : Meth K c_Space "collect_with" f_Space_collect_with
  b_Space_collect_with : Binds K fd_Space_collect_with ["self", "word"] []
  f_Space_new : Addr
  fd_Space_new : FuncData
  F_Space_new : Fun K "new" "Space.new" s_Space_new f_Space_new fd_Space_new
  m_Space_new : Meth K c_Space "new" f_Space_new
  b_Space_new : Binds K fd_Space_new ["self", "kind", "size"] []
  f_Space_fitted : Addr
  fd_Space_fitted : FuncData
  F_Space_fitted : Fun K "fitted" "Space.fitted" s_Space_fitted f_Space_fitted fd_Space_fitted
  m_Space_fitted : Meth K c_Space "fitted" f_Space_fitted
  b_Space_fitted : Binds K fd_Space_fitted ["self", "kind", "size"] []
  f__law_number : Addr
  fd__law_number : FuncData
  F__law_number : Fun K "_law_number" "_law_number" s__law_number f__law_number fd__law_number
  g__law_number : mg "_law_number" = some (.ref f__law_number)
  b__law_number : Binds K fd__law_number ["_law_cell", "_law_k"] []
  f__law_word : Addr
  fd__law_word : FuncData
  F__law_word : Fun K "_law_word" "_law_word" s__law_word f__law_word fd__law_word
  g__law_word : mg "_law_word" = some (.ref f__law_word)
  b__law_word : Binds K fd__law_word ["_law_x", "_law_many"] []
  f__law_is : Addr
  fd__law_is : FuncData
  F__law_is : Fun K "_law_is" "_law_is" s__law_is f__law_is fd__law_is
  g__law_is : mg "_law_is" = some (.ref f__law_is)
  b__law_is : Binds K fd__law_is ["_law_actual", "_law_due_here"] []
  f__law_same : Addr
  fd__law_same : FuncData
  F__law_same : Fun K "_law_same" "_law_same" s__law_same f__law_same fd__law_same
  g__law_same : mg "_law_same" = some (.ref f__law_same)
  b__law_same : Binds K fd__law_same ["_law_actual", "_law_due_here"] []
  f__law_sizes : Addr
  fd__law_sizes : FuncData
  F__law_sizes : Fun K "_law_sizes" "_law_sizes" s__law_sizes f__law_sizes fd__law_sizes
  g__law_sizes : mg "_law_sizes" = some (.ref f__law_sizes)
  b__law_sizes : Binds K fd__law_sizes ["_law_x"] []
  f__law_rows : Addr
  fd__law_rows : FuncData
  F__law_rows : Fun K "_law_rows" "_law_rows" s__law_rows f__law_rows fd__law_rows
  g__law_rows : mg "_law_rows" = some (.ref f__law_rows)
  b__law_rows : Binds K fd__law_rows ["_law_sizes_here", "_law_x"] []
  f__law_roots : Addr
  fd__law_roots : FuncData
  F__law_roots : Fun K "_law_roots" "_law_roots" s__law_roots f__law_roots fd__law_roots
  g__law_roots : mg "_law_roots" = some (.ref f__law_roots)
  b__law_roots : Binds K fd__law_roots ["_law_many", "_law_x"] []
  f__law_space : Addr
  fd__law_space : FuncData
  F__law_space : Fun K "_law_space" "_law_space" s__law_space f__law_space fd__law_space
  g__law_space : mg "_law_space" = some (.ref f__law_space)
  b__law_space : Binds K fd__law_space ["_law_rows_here", "_law_words"] []
  f__law_kept : Addr
  fd__law_kept : FuncData
  F__law_kept : Fun K "_law_kept" "_law_kept" s__law_kept f__law_kept fd__law_kept
  g__law_kept : mg "_law_kept" = some (.ref f__law_kept)
  b__law_kept : Binds K fd__law_kept ["_law_space_here", "_law_rows_here", "_law_words"] []
  f__law_order : Addr
  fd__law_order : FuncData
  F__law_order : Fun K "_law_order" "_law_order" s__law_order f__law_order fd__law_order
  g__law_order : mg "_law_order" = some (.ref f__law_order)
  b__law_order : Binds K fd__law_order ["_law_many", "_law_x"] []
  f__law_turned : Addr
  fd__law_turned : FuncData
  F__law_turned : Fun K "_law_turned" "_law_turned" s__law_turned f__law_turned fd__law_turned
  g__law_turned : mg "_law_turned" = some (.ref f__law_turned)
  b__law_turned : Binds K fd__law_turned ["_law_word_here", "_law_order_here", "_law_many"] []
  f__law_twin : Addr
  fd__law_twin : FuncData
  F__law_twin : Fun K "_law_twin" "_law_twin" s__law_twin f__law_twin fd__law_twin
  g__law_twin : mg "_law_twin" = some (.ref f__law_twin)
  b__law_twin : Binds K fd__law_twin ["_law_rows_here", "_law_words", "_law_order_here"] []
  f__law_change : Addr
  fd__law_change : FuncData
  F__law_change : Fun K "_law_change" "_law_change" s__law_change f__law_change fd__law_change
  g__law_change : mg "_law_change" = some (.ref f__law_change)
  b__law_change : Binds K fd__law_change ["_law_rows_here", "_law_words", "_law_x"] []
  f__law_walk : Addr
  fd__law_walk : FuncData
  F__law_walk : Fun K "_law_walk" "_law_walk" s__law_walk f__law_walk fd__law_walk
  g__law_walk : mg "_law_walk" = some (.ref f__law_walk)
  b__law_walk : Binds K fd__law_walk ["_law_world", "_law_path_here"] []
  f__law_thing : Addr
  fd__law_thing : FuncData
  F__law_thing : Fun K "_law_thing" "_law_thing" s__law_thing f__law_thing fd__law_thing
  g__law_thing : mg "_law_thing" = some (.ref f__law_thing)
  b__law_thing : Binds K fd__law_thing ["_law_world", "_law_word_here"] []
  f__law_rows_fit : Addr
  fd__law_rows_fit : FuncData
  F__law_rows_fit : Fun K "_law_rows_fit" "_law_rows_fit" s__law_rows_fit f__law_rows_fit fd__law_rows_fit
  g__law_rows_fit : mg "_law_rows_fit" = some (.ref f__law_rows_fit)
  b__law_rows_fit : Binds K fd__law_rows_fit ["_law_one", "_law_other", "_law_there", "_law_row", "_law_twin_here"] []
  f__law_pairs_hold : Addr
  fd__law_pairs_hold : FuncData
  F__law_pairs_hold : Fun K "_law_pairs_hold" "_law_pairs_hold" s__law_pairs_hold f__law_pairs_hold fd__law_pairs_hold
  g__law_pairs_hold : mg "_law_pairs_hold" = some (.ref f__law_pairs_hold)
  b__law_pairs_hold : Binds K fd__law_pairs_hold ["_law_one", "_law_other", "_law_pairs"] []
  f__law_holds : Addr
  fd__law_holds : FuncData
  F__law_holds : Fun K "_law_holds" "_law_holds" s__law_holds f__law_holds fd__law_holds
  g__law_holds : mg "_law_holds" = some (.ref f__law_holds)
  b__law_holds : Binds K fd__law_holds ["_law_one", "_law_other", "_law_verdict_here"] []
  f__law_due : Addr
  fd__law_due : FuncData
  F__law_due : Fun K "_law_due" "_law_due" s__law_due f__law_due fd__law_due
  g__law_due : mg "_law_due" = some (.ref f__law_due)
  b__law_due : Binds K fd__law_due ["_law_one", "_law_other"] []
  f__law_tuple_is : Addr
  fd__law_tuple_is : FuncData
  F__law_tuple_is : Fun K "_law_tuple_is" "_law_tuple_is" s__law_tuple_is f__law_tuple_is fd__law_tuple_is
  g__law_tuple_is : mg "_law_tuple_is" = some (.ref f__law_tuple_is)
  b__law_tuple_is : Binds K fd__law_tuple_is ["_law_told", "_law_due_here"] []
  f__law_path : Addr
  fd__law_path : FuncData
  F__law_path : Fun K "_law_path" "_law_path" s__law_path f__law_path fd__law_path
  g__law_path : mg "_law_path" = some (.ref f__law_path)
  b__law_path : Binds K fd__law_path ["_law_world", "_law_x"] []
  f__law_verdict : Addr
  fd__law_verdict : FuncData
  F__law_verdict : Fun K "_law_verdict" "_law_verdict" s__law_verdict f__law_verdict fd__law_verdict
  g__law_verdict : mg "_law_verdict" = some (.ref f__law_verdict)
  b__law_verdict : Binds K fd__law_verdict ["_law_one", "_law_other", "_law_pairs", "_law_x"] []
  f__law_built : Addr
  fd__law_built : FuncData
  F__law_built : Fun K "_law_built" "_law_built" s__law_built f__law_built fd__law_built
  g__law_built : mg "_law_built" = some (.ref f__law_built)
  b__law_built : Binds K fd__law_built ["_law_cells"] []
  f_law : Addr
  fd_law : FuncData
  F_law : Fun K "law" "law" s_law f_law fd_law
  g_law : mg "law" = some (.ref f_law)
  b_law : Binds K fd_law ["_law_script"] []
  g_collect_collecting : mg "collect_collecting" = some (.ref f_collect)
def mkW {l : PySem.W.OpenLaw} {K : PySem.W.Frag} {h : Heap} {mg : Str → Option Value} (X : K.In h) (G : h.Ns mainGlobals mg)
    {t_NIL : Tok}
    {t_HEADER : Tok}
    {t_ROOTS : Tok}
    {C_Comparison : Addr}
    {C_Store : Addr}
    {C_Space : Addr}
    {ocis_ref kVis_ref dcis_ref pmis_ref cdis_ref ctis_ref : Value} {odis_ref anis_ref : Option Addr} {slis_ref : Array (Option Value)} {fis_ref : Addr}
    {ocref_of kVref_of dcref_of pmref_of cdref_of ctref_of : Value} {odref_of anref_of : Option Addr} {slref_of : Array (Option Value)} {fref_of : Addr}
    {ocreached kVreached dcreached pmreached cdreached ctreached : Value} {odreached anreached : Option Addr} {slreached : Array (Option Value)} {freached : Addr}
    {occollect kVcollect dccollect pmcollect cdcollect ctcollect : Value} {odcollect ancollect : Option Addr} {slcollect : Array (Option Value)} {fcollect : Addr}
    {ocobject_of kVobject_of dcobject_of pmobject_of cdobject_of ctobject_of : Value} {odobject_of anobject_of : Option Addr} {slobject_of : Array (Option Value)} {fobject_of : Addr}
    {ocrow_of kVrow_of dcrow_of pmrow_of cdrow_of ctrow_of : Value} {odrow_of anrow_of : Option Addr} {slrow_of : Array (Option Value)} {frow_of : Addr}
    {ocword_at kVword_at dcword_at pmword_at cdword_at ctword_at : Value} {odword_at anword_at : Option Addr} {slword_at : Array (Option Value)} {fword_at : Addr}
    {ocComparison___init__ kVComparison___init__ dcComparison___init__ pmComparison___init__ cdComparison___init__ ctComparison___init__ : Value} {odComparison___init__ anComparison___init__ : Option Addr} {slComparison___init__ : Array (Option Value)} {fComparison___init__ : Addr}
    {ocComparison_clash kVComparison_clash dcComparison_clash pmComparison_clash cdComparison_clash ctComparison_clash : Value} {odComparison_clash anComparison_clash : Option Addr} {slComparison_clash : Array (Option Value)} {fComparison_clash : Addr}
    {ocComparison_met kVComparison_met dcComparison_met pmComparison_met cdComparison_met ctComparison_met : Value} {odComparison_met anComparison_met : Option Addr} {slComparison_met : Array (Option Value)} {fComparison_met : Addr}
    {ocComparison_verdict kVComparison_verdict dcComparison_verdict pmComparison_verdict cdComparison_verdict ctComparison_verdict : Value} {odComparison_verdict anComparison_verdict : Option Addr} {slComparison_verdict : Array (Option Value)} {fComparison_verdict : Addr}
    {ocfollowing kVfollowing dcfollowing pmfollowing cdfollowing ctfollowing : Value} {odfollowing anfollowing : Option Addr} {slfollowing : Array (Option Value)} {ffollowing : Addr}
    {occompare kVcompare dccompare pmcompare cdcompare ctcompare : Value} {odcompare ancompare : Option Addr} {slcompare : Array (Option Value)} {fcompare : Addr}
    {ocboth_at kVboth_at dcboth_at pmboth_at cdboth_at ctboth_at : Value} {odboth_at anboth_at : Option Addr} {slboth_at : Array (Option Value)} {fboth_at : Addr}
    {ocwords_differ kVwords_differ dcwords_differ pmwords_differ cdwords_differ ctwords_differ : Value} {odwords_differ anwords_differ : Option Addr} {slwords_differ : Array (Option Value)} {fwords_differ : Addr}
    {ocsizes_differ kVsizes_differ dcsizes_differ pmsizes_differ cdsizes_differ ctsizes_differ : Value} {odsizes_differ ansizes_differ : Option Addr} {slsizes_differ : Array (Option Value)} {fsizes_differ : Addr}
    {ocsharing_differs kVsharing_differs dcsharing_differs pmsharing_differs cdsharing_differs ctsharing_differs : Value} {odsharing_differs ansharing_differs : Option Addr} {slsharing_differs : Array (Option Value)} {fsharing_differs : Addr}
    {ocrows_match kVrows_match dcrows_match pmrows_match cdrows_match ctrows_match : Value} {odrows_match anrows_match : Option Addr} {slrows_match : Array (Option Value)} {frows_match : Addr}
    {ocpairs_match kVpairs_match dcpairs_match pmpairs_match cdpairs_match ctpairs_match : Value} {odpairs_match anpairs_match : Option Addr} {slpairs_match : Array (Option Value)} {fpairs_match : Addr}
    {ocjudge kVjudge dcjudge pmjudge cdjudge ctjudge : Value} {odjudge anjudge : Option Addr} {sljudge : Array (Option Value)} {fjudge : Addr}
    {ocStore___init__ kVStore___init__ dcStore___init__ pmStore___init__ cdStore___init__ ctStore___init__ : Value} {odStore___init__ anStore___init__ : Option Addr} {slStore___init__ : Array (Option Value)} {fStore___init__ : Addr}
    {ocStore_exists kVStore_exists dcStore_exists pmStore_exists cdStore_exists ctStore_exists : Value} {odStore_exists anStore_exists : Option Addr} {slStore_exists : Array (Option Value)} {fStore_exists : Addr}
    {ocStore_numbers kVStore_numbers dcStore_numbers pmStore_numbers cdStore_numbers ctStore_numbers : Value} {odStore_numbers anStore_numbers : Option Addr} {slStore_numbers : Array (Option Value)} {fStore_numbers : Addr}
    {ocStore_free_number kVStore_free_number dcStore_free_number pmStore_free_number cdStore_free_number ctStore_free_number : Value} {odStore_free_number anStore_free_number : Option Addr} {slStore_free_number : Array (Option Value)} {fStore_free_number : Addr}
    {ocStore_allocate kVStore_allocate dcStore_allocate pmStore_allocate cdStore_allocate ctStore_allocate : Value} {odStore_allocate anStore_allocate : Option Addr} {slStore_allocate : Array (Option Value)} {fStore_allocate : Addr}
    {ocStore_size kVStore_size dcStore_size pmStore_size cdStore_size ctStore_size : Value} {odStore_size anStore_size : Option Addr} {slStore_size : Array (Option Value)} {fStore_size : Addr}
    {ocStore_kind kVStore_kind dcStore_kind pmStore_kind cdStore_kind ctStore_kind : Value} {odStore_kind anStore_kind : Option Addr} {slStore_kind : Array (Option Value)} {fStore_kind : Addr}
    {ocStore_put kVStore_put dcStore_put pmStore_put cdStore_put ctStore_put : Value} {odStore_put anStore_put : Option Addr} {slStore_put : Array (Option Value)} {fStore_put : Addr}
    {ocStore_slots kVStore_slots dcStore_slots pmStore_slots cdStore_slots ctStore_slots : Value} {odStore_slots anStore_slots : Option Addr} {slStore_slots : Array (Option Value)} {fStore_slots : Addr}
    {ocStore_drop kVStore_drop dcStore_drop pmStore_drop cdStore_drop ctStore_drop : Value} {odStore_drop anStore_drop : Option Addr} {slStore_drop : Array (Option Value)} {fStore_drop : Addr}
    {ocStore_close_up kVStore_close_up dcStore_close_up pmStore_close_up cdStore_close_up ctStore_close_up : Value} {odStore_close_up anStore_close_up : Option Addr} {slStore_close_up : Array (Option Value)} {fStore_close_up : Addr}
    {cAStore_close_up PTStore_close_up : Addr} {cclStore_close_up : Value} {cddStore_close_up : Option Addr} {vsStore_close_up : Array Value} {ccsStore_close_up : Array (Option Value)}
    {ocStore_exchange kVStore_exchange dcStore_exchange pmStore_exchange cdStore_exchange ctStore_exchange : Value} {odStore_exchange anStore_exchange : Option Addr} {slStore_exchange : Array (Option Value)} {fStore_exchange : Addr}
    {ocSpace___init__ kVSpace___init__ dcSpace___init__ pmSpace___init__ cdSpace___init__ ctSpace___init__ : Value} {odSpace___init__ anSpace___init__ : Option Addr} {slSpace___init__ : Array (Option Value)} {fSpace___init__ : Addr}
    {ocSpace_set_root kVSpace_set_root dcSpace_set_root pmSpace_set_root cdSpace_set_root ctSpace_set_root : Value} {odSpace_set_root anSpace_set_root : Option Addr} {slSpace_set_root : Array (Option Value)} {fSpace_set_root : Addr}
    {ocSpace_hold kVSpace_hold dcSpace_hold pmSpace_hold cdSpace_hold ctSpace_hold : Value} {odSpace_hold anSpace_hold : Option Addr} {slSpace_hold : Array (Option Value)} {fSpace_hold : Addr}
    {ocSpace_held kVSpace_held dcSpace_held pmSpace_held cdSpace_held ctSpace_held : Value} {odSpace_held anSpace_held : Option Addr} {slSpace_held : Array (Option Value)} {fSpace_held : Addr}
    {ocSpace_all_roots kVSpace_all_roots dcSpace_all_roots pmSpace_all_roots cdSpace_all_roots ctSpace_all_roots : Value} {odSpace_all_roots anSpace_all_roots : Option Addr} {slSpace_all_roots : Array (Option Value)} {fSpace_all_roots : Addr}
    {ocSpace_collect kVSpace_collect dcSpace_collect pmSpace_collect cdSpace_collect ctSpace_collect : Value} {odSpace_collect anSpace_collect : Option Addr} {slSpace_collect : Array (Option Value)} {fSpace_collect : Addr}
    {ocSpace_collect_with kVSpace_collect_with dcSpace_collect_with pmSpace_collect_with cdSpace_collect_with ctSpace_collect_with : Value} {odSpace_collect_with anSpace_collect_with : Option Addr} {slSpace_collect_with : Array (Option Value)} {fSpace_collect_with : Addr}
    {ocSpace_new kVSpace_new dcSpace_new pmSpace_new cdSpace_new ctSpace_new : Value} {odSpace_new anSpace_new : Option Addr} {slSpace_new : Array (Option Value)} {fSpace_new : Addr}
    {ocSpace_fitted kVSpace_fitted dcSpace_fitted pmSpace_fitted cdSpace_fitted ctSpace_fitted : Value} {odSpace_fitted anSpace_fitted : Option Addr} {slSpace_fitted : Array (Option Value)} {fSpace_fitted : Addr}
    {oc_law_number kV_law_number dc_law_number pm_law_number cd_law_number ct_law_number : Value} {od_law_number an_law_number : Option Addr} {sl_law_number : Array (Option Value)} {f_law_number : Addr}
    {oc_law_word kV_law_word dc_law_word pm_law_word cd_law_word ct_law_word : Value} {od_law_word an_law_word : Option Addr} {sl_law_word : Array (Option Value)} {f_law_word : Addr}
    {oc_law_is kV_law_is dc_law_is pm_law_is cd_law_is ct_law_is : Value} {od_law_is an_law_is : Option Addr} {sl_law_is : Array (Option Value)} {f_law_is : Addr}
    {oc_law_same kV_law_same dc_law_same pm_law_same cd_law_same ct_law_same : Value} {od_law_same an_law_same : Option Addr} {sl_law_same : Array (Option Value)} {f_law_same : Addr}
    {oc_law_sizes kV_law_sizes dc_law_sizes pm_law_sizes cd_law_sizes ct_law_sizes : Value} {od_law_sizes an_law_sizes : Option Addr} {sl_law_sizes : Array (Option Value)} {f_law_sizes : Addr}
    {oc_law_rows kV_law_rows dc_law_rows pm_law_rows cd_law_rows ct_law_rows : Value} {od_law_rows an_law_rows : Option Addr} {sl_law_rows : Array (Option Value)} {f_law_rows : Addr}
    {oc_law_roots kV_law_roots dc_law_roots pm_law_roots cd_law_roots ct_law_roots : Value} {od_law_roots an_law_roots : Option Addr} {sl_law_roots : Array (Option Value)} {f_law_roots : Addr}
    {oc_law_space kV_law_space dc_law_space pm_law_space cd_law_space ct_law_space : Value} {od_law_space an_law_space : Option Addr} {sl_law_space : Array (Option Value)} {f_law_space : Addr}
    {oc_law_kept kV_law_kept dc_law_kept pm_law_kept cd_law_kept ct_law_kept : Value} {od_law_kept an_law_kept : Option Addr} {sl_law_kept : Array (Option Value)} {f_law_kept : Addr}
    {oc_law_order kV_law_order dc_law_order pm_law_order cd_law_order ct_law_order : Value} {od_law_order an_law_order : Option Addr} {sl_law_order : Array (Option Value)} {f_law_order : Addr}
    {oc_law_turned kV_law_turned dc_law_turned pm_law_turned cd_law_turned ct_law_turned : Value} {od_law_turned an_law_turned : Option Addr} {sl_law_turned : Array (Option Value)} {f_law_turned : Addr}
    {oc_law_twin kV_law_twin dc_law_twin pm_law_twin cd_law_twin ct_law_twin : Value} {od_law_twin an_law_twin : Option Addr} {sl_law_twin : Array (Option Value)} {f_law_twin : Addr}
    {oc_law_change kV_law_change dc_law_change pm_law_change cd_law_change ct_law_change : Value} {od_law_change an_law_change : Option Addr} {sl_law_change : Array (Option Value)} {f_law_change : Addr}
    {oc_law_walk kV_law_walk dc_law_walk pm_law_walk cd_law_walk ct_law_walk : Value} {od_law_walk an_law_walk : Option Addr} {sl_law_walk : Array (Option Value)} {f_law_walk : Addr}
    {oc_law_thing kV_law_thing dc_law_thing pm_law_thing cd_law_thing ct_law_thing : Value} {od_law_thing an_law_thing : Option Addr} {sl_law_thing : Array (Option Value)} {f_law_thing : Addr}
    {oc_law_rows_fit kV_law_rows_fit dc_law_rows_fit pm_law_rows_fit cd_law_rows_fit ct_law_rows_fit : Value} {od_law_rows_fit an_law_rows_fit : Option Addr} {sl_law_rows_fit : Array (Option Value)} {f_law_rows_fit : Addr}
    {oc_law_pairs_hold kV_law_pairs_hold dc_law_pairs_hold pm_law_pairs_hold cd_law_pairs_hold ct_law_pairs_hold : Value} {od_law_pairs_hold an_law_pairs_hold : Option Addr} {sl_law_pairs_hold : Array (Option Value)} {f_law_pairs_hold : Addr}
    {oc_law_holds kV_law_holds dc_law_holds pm_law_holds cd_law_holds ct_law_holds : Value} {od_law_holds an_law_holds : Option Addr} {sl_law_holds : Array (Option Value)} {f_law_holds : Addr}
    {oc_law_due kV_law_due dc_law_due pm_law_due cd_law_due ct_law_due : Value} {od_law_due an_law_due : Option Addr} {sl_law_due : Array (Option Value)} {f_law_due : Addr}
    {oc_law_tuple_is kV_law_tuple_is dc_law_tuple_is pm_law_tuple_is cd_law_tuple_is ct_law_tuple_is : Value} {od_law_tuple_is an_law_tuple_is : Option Addr} {sl_law_tuple_is : Array (Option Value)} {f_law_tuple_is : Addr}
    {oc_law_path kV_law_path dc_law_path pm_law_path cd_law_path ct_law_path : Value} {od_law_path an_law_path : Option Addr} {sl_law_path : Array (Option Value)} {f_law_path : Addr}
    {oc_law_verdict kV_law_verdict dc_law_verdict pm_law_verdict cd_law_verdict ct_law_verdict : Value} {od_law_verdict an_law_verdict : Option Addr} {sl_law_verdict : Array (Option Value)} {f_law_verdict : Addr}
    {oc_law_built kV_law_built dc_law_built pm_law_built cd_law_built ct_law_built : Value} {od_law_built an_law_built : Option Addr} {sl_law_built : Array (Option Value)} {f_law_built : Addr}
    {oclaw kVlaw dclaw pmlaw cdlaw ctlaw : Value} {odlaw anlaw : Option Addr} {sllaw : Array (Option Value)} {flaw : Addr}
    (z_all : PySem.W.nsIn K mainGlobals "all" = some none)
    (z_bool : PySem.W.nsIn K mainGlobals "bool" = some none)
    (z_int : PySem.W.nsIn K mainGlobals "int" = some none)
    (z_isinstance : PySem.W.nsIn K mainGlobals "isinstance" = some none)
    (z_len : PySem.W.nsIn K mainGlobals "len" = some none)
    (z_list : PySem.W.nsIn K mainGlobals "list" = some none)
    (z_min : PySem.W.nsIn K mainGlobals "min" = some none)
    (z_range : PySem.W.nsIn K mainGlobals "range" = some none)
    (z_sorted : PySem.W.nsIn K mainGlobals "sorted" = some none)
    (z_str : PySem.W.nsIn K mainGlobals "str" = some none)
    (z_tuple : PySem.W.nsIn K mainGlobals "tuple" = some none)
    (z_zip : PySem.W.nsIn K mainGlobals "zip" = some none)
    (c_NIL : PySem.W.nsIn K mainGlobals "NIL" = some (some (.int (0) t_NIL)))
    (c_HEADER : PySem.W.nsIn K mainGlobals "HEADER" = some (some (.int (3) t_HEADER)))
    (c_ROOTS : PySem.W.nsIn K mainGlobals "ROOTS" = some (some (.int (16) t_ROOTS)))
    (cl_Comparison : PySem.W.nsIn K mainGlobals "Comparison" = some (some (.ref C_Comparison)))
    (pg_Comparison : PySem.W.plainGet K C_Comparison Str.empty = true)
    (hd_Comparison : PySem.W.hasDictIn K C_Comparison = true)
    (po_Comparison : PySem.W.plainOver K C_Comparison = true)
    (sa_Comparison : PySem.W.findIn K (.ref C_Comparison) "__setattr__" = some (some (.builtin "object.__setattr__")))
    (mk_Comparison : PySem.W.makesIn K C_Comparison = true)
    (kp_Comparison : PySem.W.keepIn K (.ref C_Comparison) = true)
    (na_Comparison_one : PySem.W.findIn K (.ref C_Comparison) "one" = some none)
    (na_Comparison_other : PySem.W.findIn K (.ref C_Comparison) "other" = some none)
    (na_Comparison_there : PySem.W.findIn K (.ref C_Comparison) "there" = some none)
    (na_Comparison_back : PySem.W.findIn K (.ref C_Comparison) "back" = some none)
    (na_Comparison_first : PySem.W.findIn K (.ref C_Comparison) "first" = some none)
    (cl_Store : PySem.W.nsIn K mainGlobals "Store" = some (some (.ref C_Store)))
    (pg_Store : PySem.W.plainGet K C_Store Str.empty = true)
    (hd_Store : PySem.W.hasDictIn K C_Store = true)
    (po_Store : PySem.W.plainOver K C_Store = true)
    (sa_Store : PySem.W.findIn K (.ref C_Store) "__setattr__" = some (some (.builtin "object.__setattr__")))
    (mk_Store : PySem.W.makesIn K C_Store = true)
    (kp_Store : PySem.W.keepIn K (.ref C_Store) = true)
    (na_Store_room : PySem.W.findIn K (.ref C_Store) "room" = some none)
    (na_Store_entries : PySem.W.findIn K (.ref C_Store) "entries" = some none)
    (na_Store_words : PySem.W.findIn K (.ref C_Store) "words" = some none)
    (na_Store__places : PySem.W.findIn K (.ref C_Store) "_places" = some none)
    (na_Store__least : PySem.W.findIn K (.ref C_Store) "_least" = some none)
    (cl_Space : PySem.W.nsIn K mainGlobals "Space" = some (some (.ref C_Space)))
    (pg_Space : PySem.W.plainGet K C_Space Str.empty = true)
    (hd_Space : PySem.W.hasDictIn K C_Space = true)
    (po_Space : PySem.W.plainOver K C_Space = true)
    (sa_Space : PySem.W.findIn K (.ref C_Space) "__setattr__" = some (some (.builtin "object.__setattr__")))
    (mk_Space : PySem.W.makesIn K C_Space = true)
    (kp_Space : PySem.W.keepIn K (.ref C_Space) = true)
    (na_Space_store : PySem.W.findIn K (.ref C_Space) "store" = some none)
    (na_Space_pressure : PySem.W.findIn K (.ref C_Space) "pressure" = some none)
    (na_Space_always : PySem.W.findIn K (.ref C_Space) "always" = some none)
    (na_Space_allocations : PySem.W.findIn K (.ref C_Space) "allocations" = some none)
    (na_Space_collections : PySem.W.findIn K (.ref C_Space) "collections" = some none)
    (na_Space__roots : PySem.W.findIn K (.ref C_Space) "_roots" = some none)
    (na_Space__held : PySem.W.findIn K (.ref C_Space) "_held" = some none)
    (na_Space__saved : PySem.W.findIn K (.ref C_Space) "_saved" = some none)
    (a_is_ref : PySem.W.nsIn K mainGlobals "is_ref" = some (some (.ref fis_ref)))
    (l_is_ref : K.lookup fis_ref = some ⟨ocis_ref, odis_ref, .func (PySem.W.fnOf "is_ref" "is_ref" (defArgs s_is_ref) (defBody s_is_ref) (defScope s_is_ref) .none kVis_ref dcis_ref pmis_ref anis_ref cdis_ref ctis_ref), slis_ref⟩)
    (c_is_ref : PySem.W.codeIn K cdis_ref "is_ref" = true)
    (k_is_ref : PySem.W.keepIn K (.ref fis_ref) = true)
    (a_ref_of : PySem.W.nsIn K mainGlobals "ref_of" = some (some (.ref fref_of)))
    (l_ref_of : K.lookup fref_of = some ⟨ocref_of, odref_of, .func (PySem.W.fnOf "ref_of" "ref_of" (defArgs s_ref_of) (defBody s_ref_of) (defScope s_ref_of) .none kVref_of dcref_of pmref_of anref_of cdref_of ctref_of), slref_of⟩)
    (c_ref_of : PySem.W.codeIn K cdref_of "ref_of" = true)
    (k_ref_of : PySem.W.keepIn K (.ref fref_of) = true)
    (a_reached : PySem.W.nsIn K mainGlobals "reached" = some (some (.ref freached)))
    (l_reached : K.lookup freached = some ⟨ocreached, odreached, .func (PySem.W.fnOf "reached" "reached" (defArgs s_reached) (defBody s_reached) (defScope s_reached) .none kVreached dcreached pmreached anreached cdreached ctreached), slreached⟩)
    (c_reached : PySem.W.codeIn K cdreached "reached" = true)
    (k_reached : PySem.W.keepIn K (.ref freached) = true)
    (a_collect : PySem.W.nsIn K mainGlobals "collect" = some (some (.ref fcollect)))
    (l_collect : K.lookup fcollect = some ⟨occollect, odcollect, .func (PySem.W.fnOf "collect" "collect" (defArgs s_collect) (defBody s_collect) (defScope s_collect) .none kVcollect dccollect pmcollect ancollect cdcollect ctcollect), slcollect⟩)
    (c_collect : PySem.W.codeIn K cdcollect "collect" = true)
    (k_collect : PySem.W.keepIn K (.ref fcollect) = true)
    (a_object_of : PySem.W.nsIn K mainGlobals "object_of" = some (some (.ref fobject_of)))
    (l_object_of : K.lookup fobject_of = some ⟨ocobject_of, odobject_of, .func (PySem.W.fnOf "object_of" "object_of" (defArgs s_object_of) (defBody s_object_of) (defScope s_object_of) .none kVobject_of dcobject_of pmobject_of anobject_of cdobject_of ctobject_of), slobject_of⟩)
    (c_object_of : PySem.W.codeIn K cdobject_of "object_of" = true)
    (k_object_of : PySem.W.keepIn K (.ref fobject_of) = true)
    (a_row_of : PySem.W.nsIn K mainGlobals "row_of" = some (some (.ref frow_of)))
    (l_row_of : K.lookup frow_of = some ⟨ocrow_of, odrow_of, .func (PySem.W.fnOf "row_of" "row_of" (defArgs s_row_of) (defBody s_row_of) (defScope s_row_of) .none kVrow_of dcrow_of pmrow_of anrow_of cdrow_of ctrow_of), slrow_of⟩)
    (c_row_of : PySem.W.codeIn K cdrow_of "row_of" = true)
    (k_row_of : PySem.W.keepIn K (.ref frow_of) = true)
    (a_word_at : PySem.W.nsIn K mainGlobals "word_at" = some (some (.ref fword_at)))
    (l_word_at : K.lookup fword_at = some ⟨ocword_at, odword_at, .func (PySem.W.fnOf "word_at" "word_at" (defArgs s_word_at) (defBody s_word_at) (defScope s_word_at) .none kVword_at dcword_at pmword_at anword_at cdword_at ctword_at), slword_at⟩)
    (c_word_at : PySem.W.codeIn K cdword_at "word_at" = true)
    (k_word_at : PySem.W.keepIn K (.ref fword_at) = true)
    (a_Comparison___init__ : PySem.W.findIn K (.ref C_Comparison) "__init__" = some (some (.ref fComparison___init__)))
    (l_Comparison___init__ : K.lookup fComparison___init__ = some ⟨ocComparison___init__, odComparison___init__, .func (PySem.W.fnOf "__init__" "Comparison.__init__" (defArgs s_Comparison___init__) (defBody s_Comparison___init__) (defScope s_Comparison___init__) .none kVComparison___init__ dcComparison___init__ pmComparison___init__ anComparison___init__ cdComparison___init__ ctComparison___init__), slComparison___init__⟩)
    (c_Comparison___init__ : PySem.W.codeIn K cdComparison___init__ "Comparison.__init__" = true)
    (k_Comparison___init__ : PySem.W.keepIn K (.ref fComparison___init__) = true)
    (fn_Comparison___init__ : PySem.W.isFn K (.ref fComparison___init__) = true)
    (a_Comparison_clash : PySem.W.findIn K (.ref C_Comparison) "clash" = some (some (.ref fComparison_clash)))
    (l_Comparison_clash : K.lookup fComparison_clash = some ⟨ocComparison_clash, odComparison_clash, .func (PySem.W.fnOf "clash" "Comparison.clash" (defArgs s_Comparison_clash) (defBody s_Comparison_clash) (defScope s_Comparison_clash) .none kVComparison_clash dcComparison_clash pmComparison_clash anComparison_clash cdComparison_clash ctComparison_clash), slComparison_clash⟩)
    (c_Comparison_clash : PySem.W.codeIn K cdComparison_clash "Comparison.clash" = true)
    (k_Comparison_clash : PySem.W.keepIn K (.ref fComparison_clash) = true)
    (fn_Comparison_clash : PySem.W.isFn K (.ref fComparison_clash) = true)
    (a_Comparison_met : PySem.W.findIn K (.ref C_Comparison) "met" = some (some (.ref fComparison_met)))
    (l_Comparison_met : K.lookup fComparison_met = some ⟨ocComparison_met, odComparison_met, .func (PySem.W.fnOf "met" "Comparison.met" (defArgs s_Comparison_met) (defBody s_Comparison_met) (defScope s_Comparison_met) .none kVComparison_met dcComparison_met pmComparison_met anComparison_met cdComparison_met ctComparison_met), slComparison_met⟩)
    (c_Comparison_met : PySem.W.codeIn K cdComparison_met "Comparison.met" = true)
    (k_Comparison_met : PySem.W.keepIn K (.ref fComparison_met) = true)
    (fn_Comparison_met : PySem.W.isFn K (.ref fComparison_met) = true)
    (a_Comparison_verdict : PySem.W.findIn K (.ref C_Comparison) "verdict" = some (some (.ref fComparison_verdict)))
    (l_Comparison_verdict : K.lookup fComparison_verdict = some ⟨ocComparison_verdict, odComparison_verdict, .func (PySem.W.fnOf "verdict" "Comparison.verdict" (defArgs s_Comparison_verdict) (defBody s_Comparison_verdict) (defScope s_Comparison_verdict) .none kVComparison_verdict dcComparison_verdict pmComparison_verdict anComparison_verdict cdComparison_verdict ctComparison_verdict), slComparison_verdict⟩)
    (c_Comparison_verdict : PySem.W.codeIn K cdComparison_verdict "Comparison.verdict" = true)
    (k_Comparison_verdict : PySem.W.keepIn K (.ref fComparison_verdict) = true)
    (fn_Comparison_verdict : PySem.W.isFn K (.ref fComparison_verdict) = true)
    (a_following : PySem.W.nsIn K mainGlobals "following" = some (some (.ref ffollowing)))
    (l_following : K.lookup ffollowing = some ⟨ocfollowing, odfollowing, .func (PySem.W.fnOf "following" "following" (defArgs s_following) (defBody s_following) (defScope s_following) .none kVfollowing dcfollowing pmfollowing anfollowing cdfollowing ctfollowing), slfollowing⟩)
    (c_following : PySem.W.codeIn K cdfollowing "following" = true)
    (k_following : PySem.W.keepIn K (.ref ffollowing) = true)
    (a_compare : PySem.W.nsIn K mainGlobals "compare" = some (some (.ref fcompare)))
    (l_compare : K.lookup fcompare = some ⟨occompare, odcompare, .func (PySem.W.fnOf "compare" "compare" (defArgs s_compare) (defBody s_compare) (defScope s_compare) .none kVcompare dccompare pmcompare ancompare cdcompare ctcompare), slcompare⟩)
    (c_compare : PySem.W.codeIn K cdcompare "compare" = true)
    (k_compare : PySem.W.keepIn K (.ref fcompare) = true)
    (a_both_at : PySem.W.nsIn K mainGlobals "both_at" = some (some (.ref fboth_at)))
    (l_both_at : K.lookup fboth_at = some ⟨ocboth_at, odboth_at, .func (PySem.W.fnOf "both_at" "both_at" (defArgs s_both_at) (defBody s_both_at) (defScope s_both_at) .none kVboth_at dcboth_at pmboth_at anboth_at cdboth_at ctboth_at), slboth_at⟩)
    (c_both_at : PySem.W.codeIn K cdboth_at "both_at" = true)
    (k_both_at : PySem.W.keepIn K (.ref fboth_at) = true)
    (a_words_differ : PySem.W.nsIn K mainGlobals "words_differ" = some (some (.ref fwords_differ)))
    (l_words_differ : K.lookup fwords_differ = some ⟨ocwords_differ, odwords_differ, .func (PySem.W.fnOf "words_differ" "words_differ" (defArgs s_words_differ) (defBody s_words_differ) (defScope s_words_differ) .none kVwords_differ dcwords_differ pmwords_differ anwords_differ cdwords_differ ctwords_differ), slwords_differ⟩)
    (c_words_differ : PySem.W.codeIn K cdwords_differ "words_differ" = true)
    (k_words_differ : PySem.W.keepIn K (.ref fwords_differ) = true)
    (a_sizes_differ : PySem.W.nsIn K mainGlobals "sizes_differ" = some (some (.ref fsizes_differ)))
    (l_sizes_differ : K.lookup fsizes_differ = some ⟨ocsizes_differ, odsizes_differ, .func (PySem.W.fnOf "sizes_differ" "sizes_differ" (defArgs s_sizes_differ) (defBody s_sizes_differ) (defScope s_sizes_differ) .none kVsizes_differ dcsizes_differ pmsizes_differ ansizes_differ cdsizes_differ ctsizes_differ), slsizes_differ⟩)
    (c_sizes_differ : PySem.W.codeIn K cdsizes_differ "sizes_differ" = true)
    (k_sizes_differ : PySem.W.keepIn K (.ref fsizes_differ) = true)
    (a_sharing_differs : PySem.W.nsIn K mainGlobals "sharing_differs" = some (some (.ref fsharing_differs)))
    (l_sharing_differs : K.lookup fsharing_differs = some ⟨ocsharing_differs, odsharing_differs, .func (PySem.W.fnOf "sharing_differs" "sharing_differs" (defArgs s_sharing_differs) (defBody s_sharing_differs) (defScope s_sharing_differs) .none kVsharing_differs dcsharing_differs pmsharing_differs ansharing_differs cdsharing_differs ctsharing_differs), slsharing_differs⟩)
    (c_sharing_differs : PySem.W.codeIn K cdsharing_differs "sharing_differs" = true)
    (k_sharing_differs : PySem.W.keepIn K (.ref fsharing_differs) = true)
    (a_rows_match : PySem.W.nsIn K mainGlobals "rows_match" = some (some (.ref frows_match)))
    (l_rows_match : K.lookup frows_match = some ⟨ocrows_match, odrows_match, .func (PySem.W.fnOf "rows_match" "rows_match" (defArgs s_rows_match) (defBody s_rows_match) (defScope s_rows_match) .none kVrows_match dcrows_match pmrows_match anrows_match cdrows_match ctrows_match), slrows_match⟩)
    (c_rows_match : PySem.W.codeIn K cdrows_match "rows_match" = true)
    (k_rows_match : PySem.W.keepIn K (.ref frows_match) = true)
    (a_pairs_match : PySem.W.nsIn K mainGlobals "pairs_match" = some (some (.ref fpairs_match)))
    (l_pairs_match : K.lookup fpairs_match = some ⟨ocpairs_match, odpairs_match, .func (PySem.W.fnOf "pairs_match" "pairs_match" (defArgs s_pairs_match) (defBody s_pairs_match) (defScope s_pairs_match) .none kVpairs_match dcpairs_match pmpairs_match anpairs_match cdpairs_match ctpairs_match), slpairs_match⟩)
    (c_pairs_match : PySem.W.codeIn K cdpairs_match "pairs_match" = true)
    (k_pairs_match : PySem.W.keepIn K (.ref fpairs_match) = true)
    (a_judge : PySem.W.nsIn K mainGlobals "judge" = some (some (.ref fjudge)))
    (l_judge : K.lookup fjudge = some ⟨ocjudge, odjudge, .func (PySem.W.fnOf "judge" "judge" (defArgs s_judge) (defBody s_judge) (defScope s_judge) .none kVjudge dcjudge pmjudge anjudge cdjudge ctjudge), sljudge⟩)
    (c_judge : PySem.W.codeIn K cdjudge "judge" = true)
    (k_judge : PySem.W.keepIn K (.ref fjudge) = true)
    (a_Store___init__ : PySem.W.findIn K (.ref C_Store) "__init__" = some (some (.ref fStore___init__)))
    (l_Store___init__ : K.lookup fStore___init__ = some ⟨ocStore___init__, odStore___init__, .func (PySem.W.fnOf "__init__" "Store.__init__" (defArgs s_Store___init__) (defBody s_Store___init__) (defScope s_Store___init__) .none kVStore___init__ dcStore___init__ pmStore___init__ anStore___init__ cdStore___init__ ctStore___init__), slStore___init__⟩)
    (c_Store___init__ : PySem.W.codeIn K cdStore___init__ "Store.__init__" = true)
    (k_Store___init__ : PySem.W.keepIn K (.ref fStore___init__) = true)
    (fn_Store___init__ : PySem.W.isFn K (.ref fStore___init__) = true)
    (a_Store_exists : PySem.W.findIn K (.ref C_Store) "exists" = some (some (.ref fStore_exists)))
    (l_Store_exists : K.lookup fStore_exists = some ⟨ocStore_exists, odStore_exists, .func (PySem.W.fnOf "exists" "Store.exists" (defArgs s_Store_exists) (defBody s_Store_exists) (defScope s_Store_exists) .none kVStore_exists dcStore_exists pmStore_exists anStore_exists cdStore_exists ctStore_exists), slStore_exists⟩)
    (c_Store_exists : PySem.W.codeIn K cdStore_exists "Store.exists" = true)
    (k_Store_exists : PySem.W.keepIn K (.ref fStore_exists) = true)
    (fn_Store_exists : PySem.W.isFn K (.ref fStore_exists) = true)
    (a_Store_numbers : PySem.W.findIn K (.ref C_Store) "numbers" = some (some (.ref fStore_numbers)))
    (l_Store_numbers : K.lookup fStore_numbers = some ⟨ocStore_numbers, odStore_numbers, .func (PySem.W.fnOf "numbers" "Store.numbers" (defArgs s_Store_numbers) (defBody s_Store_numbers) (defScope s_Store_numbers) .none kVStore_numbers dcStore_numbers pmStore_numbers anStore_numbers cdStore_numbers ctStore_numbers), slStore_numbers⟩)
    (c_Store_numbers : PySem.W.codeIn K cdStore_numbers "Store.numbers" = true)
    (k_Store_numbers : PySem.W.keepIn K (.ref fStore_numbers) = true)
    (fn_Store_numbers : PySem.W.isFn K (.ref fStore_numbers) = true)
    (a_Store_free_number : PySem.W.findIn K (.ref C_Store) "free_number" = some (some (.ref fStore_free_number)))
    (l_Store_free_number : K.lookup fStore_free_number = some ⟨ocStore_free_number, odStore_free_number, .func (PySem.W.fnOf "free_number" "Store.free_number" (defArgs s_Store_free_number) (defBody s_Store_free_number) (defScope s_Store_free_number) .none kVStore_free_number dcStore_free_number pmStore_free_number anStore_free_number cdStore_free_number ctStore_free_number), slStore_free_number⟩)
    (c_Store_free_number : PySem.W.codeIn K cdStore_free_number "Store.free_number" = true)
    (k_Store_free_number : PySem.W.keepIn K (.ref fStore_free_number) = true)
    (fn_Store_free_number : PySem.W.isFn K (.ref fStore_free_number) = true)
    (a_Store_allocate : PySem.W.findIn K (.ref C_Store) "allocate" = some (some (.ref fStore_allocate)))
    (l_Store_allocate : K.lookup fStore_allocate = some ⟨ocStore_allocate, odStore_allocate, .func (PySem.W.fnOf "allocate" "Store.allocate" (defArgs s_Store_allocate) (defBody s_Store_allocate) (defScope s_Store_allocate) .none kVStore_allocate dcStore_allocate pmStore_allocate anStore_allocate cdStore_allocate ctStore_allocate), slStore_allocate⟩)
    (c_Store_allocate : PySem.W.codeIn K cdStore_allocate "Store.allocate" = true)
    (k_Store_allocate : PySem.W.keepIn K (.ref fStore_allocate) = true)
    (fn_Store_allocate : PySem.W.isFn K (.ref fStore_allocate) = true)
    (a_Store_size : PySem.W.findIn K (.ref C_Store) "size" = some (some (.ref fStore_size)))
    (l_Store_size : K.lookup fStore_size = some ⟨ocStore_size, odStore_size, .func (PySem.W.fnOf "size" "Store.size" (defArgs s_Store_size) (defBody s_Store_size) (defScope s_Store_size) .none kVStore_size dcStore_size pmStore_size anStore_size cdStore_size ctStore_size), slStore_size⟩)
    (c_Store_size : PySem.W.codeIn K cdStore_size "Store.size" = true)
    (k_Store_size : PySem.W.keepIn K (.ref fStore_size) = true)
    (fn_Store_size : PySem.W.isFn K (.ref fStore_size) = true)
    (a_Store_kind : PySem.W.findIn K (.ref C_Store) "kind" = some (some (.ref fStore_kind)))
    (l_Store_kind : K.lookup fStore_kind = some ⟨ocStore_kind, odStore_kind, .func (PySem.W.fnOf "kind" "Store.kind" (defArgs s_Store_kind) (defBody s_Store_kind) (defScope s_Store_kind) .none kVStore_kind dcStore_kind pmStore_kind anStore_kind cdStore_kind ctStore_kind), slStore_kind⟩)
    (c_Store_kind : PySem.W.codeIn K cdStore_kind "Store.kind" = true)
    (k_Store_kind : PySem.W.keepIn K (.ref fStore_kind) = true)
    (fn_Store_kind : PySem.W.isFn K (.ref fStore_kind) = true)
    (a_Store_put : PySem.W.findIn K (.ref C_Store) "put" = some (some (.ref fStore_put)))
    (l_Store_put : K.lookup fStore_put = some ⟨ocStore_put, odStore_put, .func (PySem.W.fnOf "put" "Store.put" (defArgs s_Store_put) (defBody s_Store_put) (defScope s_Store_put) .none kVStore_put dcStore_put pmStore_put anStore_put cdStore_put ctStore_put), slStore_put⟩)
    (c_Store_put : PySem.W.codeIn K cdStore_put "Store.put" = true)
    (k_Store_put : PySem.W.keepIn K (.ref fStore_put) = true)
    (fn_Store_put : PySem.W.isFn K (.ref fStore_put) = true)
    (a_Store_slots : PySem.W.findIn K (.ref C_Store) "slots" = some (some (.ref fStore_slots)))
    (l_Store_slots : K.lookup fStore_slots = some ⟨ocStore_slots, odStore_slots, .func (PySem.W.fnOf "slots" "Store.slots" (defArgs s_Store_slots) (defBody s_Store_slots) (defScope s_Store_slots) .none kVStore_slots dcStore_slots pmStore_slots anStore_slots cdStore_slots ctStore_slots), slStore_slots⟩)
    (c_Store_slots : PySem.W.codeIn K cdStore_slots "Store.slots" = true)
    (k_Store_slots : PySem.W.keepIn K (.ref fStore_slots) = true)
    (fn_Store_slots : PySem.W.isFn K (.ref fStore_slots) = true)
    (a_Store_drop : PySem.W.findIn K (.ref C_Store) "drop" = some (some (.ref fStore_drop)))
    (l_Store_drop : K.lookup fStore_drop = some ⟨ocStore_drop, odStore_drop, .func (PySem.W.fnOf "drop" "Store.drop" (defArgs s_Store_drop) (defBody s_Store_drop) (defScope s_Store_drop) .none kVStore_drop dcStore_drop pmStore_drop anStore_drop cdStore_drop ctStore_drop), slStore_drop⟩)
    (c_Store_drop : PySem.W.codeIn K cdStore_drop "Store.drop" = true)
    (k_Store_drop : PySem.W.keepIn K (.ref fStore_drop) = true)
    (fn_Store_drop : PySem.W.isFn K (.ref fStore_drop) = true)
    (a_Store_close_up : PySem.W.findIn K (.ref C_Store) "close_up" = some (some (.ref fStore_close_up)))
    (l_Store_close_up : K.lookup fStore_close_up = some ⟨ocStore_close_up, odStore_close_up, .func (PySem.W.fnOf "close_up" "Store.close_up" (defArgs s_Store_close_up) (defBody s_Store_close_up) (defScope s_Store_close_up) .none kVStore_close_up dcStore_close_up pmStore_close_up anStore_close_up (.ref cAStore_close_up) ctStore_close_up), slStore_close_up⟩)
    (c_Store_close_up : PySem.W.codeIn K (.ref cAStore_close_up) "Store.close_up" = true)
    (k_Store_close_up : PySem.W.keepIn K (.ref fStore_close_up) = true)
    (x1_Store_close_up : K.lookup cAStore_close_up = some ⟨cclStore_close_up, cddStore_close_up, .fields vsStore_close_up, ccsStore_close_up⟩)
    (x2_Store_close_up : vsStore_close_up[11]? = some (.ref PTStore_close_up))
    (x3_Store_close_up : PySem.W.codeHdIn K cAStore_close_up PTStore_close_up = true)
    (x4_Store_close_up : K.lookup PTStore_close_up = none)
    (fn_Store_close_up : PySem.W.isFn K (.ref fStore_close_up) = true)
    (a_Store_exchange : PySem.W.findIn K (.ref C_Store) "exchange" = some (some (.ref fStore_exchange)))
    (l_Store_exchange : K.lookup fStore_exchange = some ⟨ocStore_exchange, odStore_exchange, .func (PySem.W.fnOf "exchange" "Store.exchange" (defArgs s_Store_exchange) (defBody s_Store_exchange) (defScope s_Store_exchange) .none kVStore_exchange dcStore_exchange pmStore_exchange anStore_exchange cdStore_exchange ctStore_exchange), slStore_exchange⟩)
    (c_Store_exchange : PySem.W.codeIn K cdStore_exchange "Store.exchange" = true)
    (k_Store_exchange : PySem.W.keepIn K (.ref fStore_exchange) = true)
    (fn_Store_exchange : PySem.W.isFn K (.ref fStore_exchange) = true)
    (a_Space___init__ : PySem.W.findIn K (.ref C_Space) "__init__" = some (some (.ref fSpace___init__)))
    (l_Space___init__ : K.lookup fSpace___init__ = some ⟨ocSpace___init__, odSpace___init__, .func (PySem.W.fnOf "__init__" "Space.__init__" (defArgs s_Space___init__) (defBody s_Space___init__) (defScope s_Space___init__) .none kVSpace___init__ dcSpace___init__ pmSpace___init__ anSpace___init__ cdSpace___init__ ctSpace___init__), slSpace___init__⟩)
    (c_Space___init__ : PySem.W.codeIn K cdSpace___init__ "Space.__init__" = true)
    (k_Space___init__ : PySem.W.keepIn K (.ref fSpace___init__) = true)
    (fn_Space___init__ : PySem.W.isFn K (.ref fSpace___init__) = true)
    (a_Space_set_root : PySem.W.findIn K (.ref C_Space) "set_root" = some (some (.ref fSpace_set_root)))
    (l_Space_set_root : K.lookup fSpace_set_root = some ⟨ocSpace_set_root, odSpace_set_root, .func (PySem.W.fnOf "set_root" "Space.set_root" (defArgs s_Space_set_root) (defBody s_Space_set_root) (defScope s_Space_set_root) .none kVSpace_set_root dcSpace_set_root pmSpace_set_root anSpace_set_root cdSpace_set_root ctSpace_set_root), slSpace_set_root⟩)
    (c_Space_set_root : PySem.W.codeIn K cdSpace_set_root "Space.set_root" = true)
    (k_Space_set_root : PySem.W.keepIn K (.ref fSpace_set_root) = true)
    (fn_Space_set_root : PySem.W.isFn K (.ref fSpace_set_root) = true)
    (a_Space_hold : PySem.W.findIn K (.ref C_Space) "hold" = some (some (.ref fSpace_hold)))
    (l_Space_hold : K.lookup fSpace_hold = some ⟨ocSpace_hold, odSpace_hold, .func (PySem.W.fnOf "hold" "Space.hold" (defArgs s_Space_hold) (defBody s_Space_hold) (defScope s_Space_hold) .none kVSpace_hold dcSpace_hold pmSpace_hold anSpace_hold cdSpace_hold ctSpace_hold), slSpace_hold⟩)
    (c_Space_hold : PySem.W.codeIn K cdSpace_hold "Space.hold" = true)
    (k_Space_hold : PySem.W.keepIn K (.ref fSpace_hold) = true)
    (fn_Space_hold : PySem.W.isFn K (.ref fSpace_hold) = true)
    (a_Space_held : PySem.W.findIn K (.ref C_Space) "held" = some (some (.ref fSpace_held)))
    (l_Space_held : K.lookup fSpace_held = some ⟨ocSpace_held, odSpace_held, .func (PySem.W.fnOf "held" "Space.held" (defArgs s_Space_held) (defBody s_Space_held) (defScope s_Space_held) .none kVSpace_held dcSpace_held pmSpace_held anSpace_held cdSpace_held ctSpace_held), slSpace_held⟩)
    (c_Space_held : PySem.W.codeIn K cdSpace_held "Space.held" = true)
    (k_Space_held : PySem.W.keepIn K (.ref fSpace_held) = true)
    (fn_Space_held : PySem.W.isFn K (.ref fSpace_held) = true)
    (a_Space_all_roots : PySem.W.findIn K (.ref C_Space) "all_roots" = some (some (.ref fSpace_all_roots)))
    (l_Space_all_roots : K.lookup fSpace_all_roots = some ⟨ocSpace_all_roots, odSpace_all_roots, .func (PySem.W.fnOf "all_roots" "Space.all_roots" (defArgs s_Space_all_roots) (defBody s_Space_all_roots) (defScope s_Space_all_roots) .none kVSpace_all_roots dcSpace_all_roots pmSpace_all_roots anSpace_all_roots cdSpace_all_roots ctSpace_all_roots), slSpace_all_roots⟩)
    (c_Space_all_roots : PySem.W.codeIn K cdSpace_all_roots "Space.all_roots" = true)
    (k_Space_all_roots : PySem.W.keepIn K (.ref fSpace_all_roots) = true)
    (fn_Space_all_roots : PySem.W.isFn K (.ref fSpace_all_roots) = true)
    (a_Space_collect : PySem.W.findIn K (.ref C_Space) "collect" = some (some (.ref fSpace_collect)))
    (l_Space_collect : K.lookup fSpace_collect = some ⟨ocSpace_collect, odSpace_collect, .func (PySem.W.fnOf "collect" "Space.collect" (defArgs s_Space_collect) (defBody s_Space_collect) (defScope s_Space_collect) .none kVSpace_collect dcSpace_collect pmSpace_collect anSpace_collect cdSpace_collect ctSpace_collect), slSpace_collect⟩)
    (c_Space_collect : PySem.W.codeIn K cdSpace_collect "Space.collect" = true)
    (k_Space_collect : PySem.W.keepIn K (.ref fSpace_collect) = true)
    (fn_Space_collect : PySem.W.isFn K (.ref fSpace_collect) = true)
    (a_Space_collect_with : PySem.W.findIn K (.ref C_Space) "collect_with" = some (some (.ref fSpace_collect_with)))
    (l_Space_collect_with : K.lookup fSpace_collect_with = some ⟨ocSpace_collect_with, odSpace_collect_with, .func (PySem.W.fnOf "collect_with" "Space.collect_with" (defArgs s_Space_collect_with) (defBody s_Space_collect_with) (defScope s_Space_collect_with) .none kVSpace_collect_with dcSpace_collect_with pmSpace_collect_with anSpace_collect_with cdSpace_collect_with ctSpace_collect_with), slSpace_collect_with⟩)
    (c_Space_collect_with : PySem.W.codeIn K cdSpace_collect_with "Space.collect_with" = true)
    (k_Space_collect_with : PySem.W.keepIn K (.ref fSpace_collect_with) = true)
    (fn_Space_collect_with : PySem.W.isFn K (.ref fSpace_collect_with) = true)
    (a_Space_new : PySem.W.findIn K (.ref C_Space) "new" = some (some (.ref fSpace_new)))
    (l_Space_new : K.lookup fSpace_new = some ⟨ocSpace_new, odSpace_new, .func (PySem.W.fnOf "new" "Space.new" (defArgs s_Space_new) (defBody s_Space_new) (defScope s_Space_new) .none kVSpace_new dcSpace_new pmSpace_new anSpace_new cdSpace_new ctSpace_new), slSpace_new⟩)
    (c_Space_new : PySem.W.codeIn K cdSpace_new "Space.new" = true)
    (k_Space_new : PySem.W.keepIn K (.ref fSpace_new) = true)
    (fn_Space_new : PySem.W.isFn K (.ref fSpace_new) = true)
    (a_Space_fitted : PySem.W.findIn K (.ref C_Space) "fitted" = some (some (.ref fSpace_fitted)))
    (l_Space_fitted : K.lookup fSpace_fitted = some ⟨ocSpace_fitted, odSpace_fitted, .func (PySem.W.fnOf "fitted" "Space.fitted" (defArgs s_Space_fitted) (defBody s_Space_fitted) (defScope s_Space_fitted) .none kVSpace_fitted dcSpace_fitted pmSpace_fitted anSpace_fitted cdSpace_fitted ctSpace_fitted), slSpace_fitted⟩)
    (c_Space_fitted : PySem.W.codeIn K cdSpace_fitted "Space.fitted" = true)
    (k_Space_fitted : PySem.W.keepIn K (.ref fSpace_fitted) = true)
    (fn_Space_fitted : PySem.W.isFn K (.ref fSpace_fitted) = true)
    (a__law_number : PySem.W.nsIn K mainGlobals "_law_number" = some (some (.ref f_law_number)))
    (l__law_number : K.lookup f_law_number = some ⟨oc_law_number, od_law_number, .func (PySem.W.fnOf "_law_number" "_law_number" (defArgs s__law_number) (defBody s__law_number) (defScope s__law_number) .none kV_law_number dc_law_number pm_law_number an_law_number cd_law_number ct_law_number), sl_law_number⟩)
    (c__law_number : PySem.W.codeIn K cd_law_number "_law_number" = true)
    (k__law_number : PySem.W.keepIn K (.ref f_law_number) = true)
    (a__law_word : PySem.W.nsIn K mainGlobals "_law_word" = some (some (.ref f_law_word)))
    (l__law_word : K.lookup f_law_word = some ⟨oc_law_word, od_law_word, .func (PySem.W.fnOf "_law_word" "_law_word" (defArgs s__law_word) (defBody s__law_word) (defScope s__law_word) .none kV_law_word dc_law_word pm_law_word an_law_word cd_law_word ct_law_word), sl_law_word⟩)
    (c__law_word : PySem.W.codeIn K cd_law_word "_law_word" = true)
    (k__law_word : PySem.W.keepIn K (.ref f_law_word) = true)
    (a__law_is : PySem.W.nsIn K mainGlobals "_law_is" = some (some (.ref f_law_is)))
    (l__law_is : K.lookup f_law_is = some ⟨oc_law_is, od_law_is, .func (PySem.W.fnOf "_law_is" "_law_is" (defArgs s__law_is) (defBody s__law_is) (defScope s__law_is) .none kV_law_is dc_law_is pm_law_is an_law_is cd_law_is ct_law_is), sl_law_is⟩)
    (c__law_is : PySem.W.codeIn K cd_law_is "_law_is" = true)
    (k__law_is : PySem.W.keepIn K (.ref f_law_is) = true)
    (a__law_same : PySem.W.nsIn K mainGlobals "_law_same" = some (some (.ref f_law_same)))
    (l__law_same : K.lookup f_law_same = some ⟨oc_law_same, od_law_same, .func (PySem.W.fnOf "_law_same" "_law_same" (defArgs s__law_same) (defBody s__law_same) (defScope s__law_same) .none kV_law_same dc_law_same pm_law_same an_law_same cd_law_same ct_law_same), sl_law_same⟩)
    (c__law_same : PySem.W.codeIn K cd_law_same "_law_same" = true)
    (k__law_same : PySem.W.keepIn K (.ref f_law_same) = true)
    (a__law_sizes : PySem.W.nsIn K mainGlobals "_law_sizes" = some (some (.ref f_law_sizes)))
    (l__law_sizes : K.lookup f_law_sizes = some ⟨oc_law_sizes, od_law_sizes, .func (PySem.W.fnOf "_law_sizes" "_law_sizes" (defArgs s__law_sizes) (defBody s__law_sizes) (defScope s__law_sizes) .none kV_law_sizes dc_law_sizes pm_law_sizes an_law_sizes cd_law_sizes ct_law_sizes), sl_law_sizes⟩)
    (c__law_sizes : PySem.W.codeIn K cd_law_sizes "_law_sizes" = true)
    (k__law_sizes : PySem.W.keepIn K (.ref f_law_sizes) = true)
    (a__law_rows : PySem.W.nsIn K mainGlobals "_law_rows" = some (some (.ref f_law_rows)))
    (l__law_rows : K.lookup f_law_rows = some ⟨oc_law_rows, od_law_rows, .func (PySem.W.fnOf "_law_rows" "_law_rows" (defArgs s__law_rows) (defBody s__law_rows) (defScope s__law_rows) .none kV_law_rows dc_law_rows pm_law_rows an_law_rows cd_law_rows ct_law_rows), sl_law_rows⟩)
    (c__law_rows : PySem.W.codeIn K cd_law_rows "_law_rows" = true)
    (k__law_rows : PySem.W.keepIn K (.ref f_law_rows) = true)
    (a__law_roots : PySem.W.nsIn K mainGlobals "_law_roots" = some (some (.ref f_law_roots)))
    (l__law_roots : K.lookup f_law_roots = some ⟨oc_law_roots, od_law_roots, .func (PySem.W.fnOf "_law_roots" "_law_roots" (defArgs s__law_roots) (defBody s__law_roots) (defScope s__law_roots) .none kV_law_roots dc_law_roots pm_law_roots an_law_roots cd_law_roots ct_law_roots), sl_law_roots⟩)
    (c__law_roots : PySem.W.codeIn K cd_law_roots "_law_roots" = true)
    (k__law_roots : PySem.W.keepIn K (.ref f_law_roots) = true)
    (a__law_space : PySem.W.nsIn K mainGlobals "_law_space" = some (some (.ref f_law_space)))
    (l__law_space : K.lookup f_law_space = some ⟨oc_law_space, od_law_space, .func (PySem.W.fnOf "_law_space" "_law_space" (defArgs s__law_space) (defBody s__law_space) (defScope s__law_space) .none kV_law_space dc_law_space pm_law_space an_law_space cd_law_space ct_law_space), sl_law_space⟩)
    (c__law_space : PySem.W.codeIn K cd_law_space "_law_space" = true)
    (k__law_space : PySem.W.keepIn K (.ref f_law_space) = true)
    (a__law_kept : PySem.W.nsIn K mainGlobals "_law_kept" = some (some (.ref f_law_kept)))
    (l__law_kept : K.lookup f_law_kept = some ⟨oc_law_kept, od_law_kept, .func (PySem.W.fnOf "_law_kept" "_law_kept" (defArgs s__law_kept) (defBody s__law_kept) (defScope s__law_kept) .none kV_law_kept dc_law_kept pm_law_kept an_law_kept cd_law_kept ct_law_kept), sl_law_kept⟩)
    (c__law_kept : PySem.W.codeIn K cd_law_kept "_law_kept" = true)
    (k__law_kept : PySem.W.keepIn K (.ref f_law_kept) = true)
    (a__law_order : PySem.W.nsIn K mainGlobals "_law_order" = some (some (.ref f_law_order)))
    (l__law_order : K.lookup f_law_order = some ⟨oc_law_order, od_law_order, .func (PySem.W.fnOf "_law_order" "_law_order" (defArgs s__law_order) (defBody s__law_order) (defScope s__law_order) .none kV_law_order dc_law_order pm_law_order an_law_order cd_law_order ct_law_order), sl_law_order⟩)
    (c__law_order : PySem.W.codeIn K cd_law_order "_law_order" = true)
    (k__law_order : PySem.W.keepIn K (.ref f_law_order) = true)
    (a__law_turned : PySem.W.nsIn K mainGlobals "_law_turned" = some (some (.ref f_law_turned)))
    (l__law_turned : K.lookup f_law_turned = some ⟨oc_law_turned, od_law_turned, .func (PySem.W.fnOf "_law_turned" "_law_turned" (defArgs s__law_turned) (defBody s__law_turned) (defScope s__law_turned) .none kV_law_turned dc_law_turned pm_law_turned an_law_turned cd_law_turned ct_law_turned), sl_law_turned⟩)
    (c__law_turned : PySem.W.codeIn K cd_law_turned "_law_turned" = true)
    (k__law_turned : PySem.W.keepIn K (.ref f_law_turned) = true)
    (a__law_twin : PySem.W.nsIn K mainGlobals "_law_twin" = some (some (.ref f_law_twin)))
    (l__law_twin : K.lookup f_law_twin = some ⟨oc_law_twin, od_law_twin, .func (PySem.W.fnOf "_law_twin" "_law_twin" (defArgs s__law_twin) (defBody s__law_twin) (defScope s__law_twin) .none kV_law_twin dc_law_twin pm_law_twin an_law_twin cd_law_twin ct_law_twin), sl_law_twin⟩)
    (c__law_twin : PySem.W.codeIn K cd_law_twin "_law_twin" = true)
    (k__law_twin : PySem.W.keepIn K (.ref f_law_twin) = true)
    (a__law_change : PySem.W.nsIn K mainGlobals "_law_change" = some (some (.ref f_law_change)))
    (l__law_change : K.lookup f_law_change = some ⟨oc_law_change, od_law_change, .func (PySem.W.fnOf "_law_change" "_law_change" (defArgs s__law_change) (defBody s__law_change) (defScope s__law_change) .none kV_law_change dc_law_change pm_law_change an_law_change cd_law_change ct_law_change), sl_law_change⟩)
    (c__law_change : PySem.W.codeIn K cd_law_change "_law_change" = true)
    (k__law_change : PySem.W.keepIn K (.ref f_law_change) = true)
    (a__law_walk : PySem.W.nsIn K mainGlobals "_law_walk" = some (some (.ref f_law_walk)))
    (l__law_walk : K.lookup f_law_walk = some ⟨oc_law_walk, od_law_walk, .func (PySem.W.fnOf "_law_walk" "_law_walk" (defArgs s__law_walk) (defBody s__law_walk) (defScope s__law_walk) .none kV_law_walk dc_law_walk pm_law_walk an_law_walk cd_law_walk ct_law_walk), sl_law_walk⟩)
    (c__law_walk : PySem.W.codeIn K cd_law_walk "_law_walk" = true)
    (k__law_walk : PySem.W.keepIn K (.ref f_law_walk) = true)
    (a__law_thing : PySem.W.nsIn K mainGlobals "_law_thing" = some (some (.ref f_law_thing)))
    (l__law_thing : K.lookup f_law_thing = some ⟨oc_law_thing, od_law_thing, .func (PySem.W.fnOf "_law_thing" "_law_thing" (defArgs s__law_thing) (defBody s__law_thing) (defScope s__law_thing) .none kV_law_thing dc_law_thing pm_law_thing an_law_thing cd_law_thing ct_law_thing), sl_law_thing⟩)
    (c__law_thing : PySem.W.codeIn K cd_law_thing "_law_thing" = true)
    (k__law_thing : PySem.W.keepIn K (.ref f_law_thing) = true)
    (a__law_rows_fit : PySem.W.nsIn K mainGlobals "_law_rows_fit" = some (some (.ref f_law_rows_fit)))
    (l__law_rows_fit : K.lookup f_law_rows_fit = some ⟨oc_law_rows_fit, od_law_rows_fit, .func (PySem.W.fnOf "_law_rows_fit" "_law_rows_fit" (defArgs s__law_rows_fit) (defBody s__law_rows_fit) (defScope s__law_rows_fit) .none kV_law_rows_fit dc_law_rows_fit pm_law_rows_fit an_law_rows_fit cd_law_rows_fit ct_law_rows_fit), sl_law_rows_fit⟩)
    (c__law_rows_fit : PySem.W.codeIn K cd_law_rows_fit "_law_rows_fit" = true)
    (k__law_rows_fit : PySem.W.keepIn K (.ref f_law_rows_fit) = true)
    (a__law_pairs_hold : PySem.W.nsIn K mainGlobals "_law_pairs_hold" = some (some (.ref f_law_pairs_hold)))
    (l__law_pairs_hold : K.lookup f_law_pairs_hold = some ⟨oc_law_pairs_hold, od_law_pairs_hold, .func (PySem.W.fnOf "_law_pairs_hold" "_law_pairs_hold" (defArgs s__law_pairs_hold) (defBody s__law_pairs_hold) (defScope s__law_pairs_hold) .none kV_law_pairs_hold dc_law_pairs_hold pm_law_pairs_hold an_law_pairs_hold cd_law_pairs_hold ct_law_pairs_hold), sl_law_pairs_hold⟩)
    (c__law_pairs_hold : PySem.W.codeIn K cd_law_pairs_hold "_law_pairs_hold" = true)
    (k__law_pairs_hold : PySem.W.keepIn K (.ref f_law_pairs_hold) = true)
    (a__law_holds : PySem.W.nsIn K mainGlobals "_law_holds" = some (some (.ref f_law_holds)))
    (l__law_holds : K.lookup f_law_holds = some ⟨oc_law_holds, od_law_holds, .func (PySem.W.fnOf "_law_holds" "_law_holds" (defArgs s__law_holds) (defBody s__law_holds) (defScope s__law_holds) .none kV_law_holds dc_law_holds pm_law_holds an_law_holds cd_law_holds ct_law_holds), sl_law_holds⟩)
    (c__law_holds : PySem.W.codeIn K cd_law_holds "_law_holds" = true)
    (k__law_holds : PySem.W.keepIn K (.ref f_law_holds) = true)
    (a__law_due : PySem.W.nsIn K mainGlobals "_law_due" = some (some (.ref f_law_due)))
    (l__law_due : K.lookup f_law_due = some ⟨oc_law_due, od_law_due, .func (PySem.W.fnOf "_law_due" "_law_due" (defArgs s__law_due) (defBody s__law_due) (defScope s__law_due) .none kV_law_due dc_law_due pm_law_due an_law_due cd_law_due ct_law_due), sl_law_due⟩)
    (c__law_due : PySem.W.codeIn K cd_law_due "_law_due" = true)
    (k__law_due : PySem.W.keepIn K (.ref f_law_due) = true)
    (a__law_tuple_is : PySem.W.nsIn K mainGlobals "_law_tuple_is" = some (some (.ref f_law_tuple_is)))
    (l__law_tuple_is : K.lookup f_law_tuple_is = some ⟨oc_law_tuple_is, od_law_tuple_is, .func (PySem.W.fnOf "_law_tuple_is" "_law_tuple_is" (defArgs s__law_tuple_is) (defBody s__law_tuple_is) (defScope s__law_tuple_is) .none kV_law_tuple_is dc_law_tuple_is pm_law_tuple_is an_law_tuple_is cd_law_tuple_is ct_law_tuple_is), sl_law_tuple_is⟩)
    (c__law_tuple_is : PySem.W.codeIn K cd_law_tuple_is "_law_tuple_is" = true)
    (k__law_tuple_is : PySem.W.keepIn K (.ref f_law_tuple_is) = true)
    (a__law_path : PySem.W.nsIn K mainGlobals "_law_path" = some (some (.ref f_law_path)))
    (l__law_path : K.lookup f_law_path = some ⟨oc_law_path, od_law_path, .func (PySem.W.fnOf "_law_path" "_law_path" (defArgs s__law_path) (defBody s__law_path) (defScope s__law_path) .none kV_law_path dc_law_path pm_law_path an_law_path cd_law_path ct_law_path), sl_law_path⟩)
    (c__law_path : PySem.W.codeIn K cd_law_path "_law_path" = true)
    (k__law_path : PySem.W.keepIn K (.ref f_law_path) = true)
    (a__law_verdict : PySem.W.nsIn K mainGlobals "_law_verdict" = some (some (.ref f_law_verdict)))
    (l__law_verdict : K.lookup f_law_verdict = some ⟨oc_law_verdict, od_law_verdict, .func (PySem.W.fnOf "_law_verdict" "_law_verdict" (defArgs s__law_verdict) (defBody s__law_verdict) (defScope s__law_verdict) .none kV_law_verdict dc_law_verdict pm_law_verdict an_law_verdict cd_law_verdict ct_law_verdict), sl_law_verdict⟩)
    (c__law_verdict : PySem.W.codeIn K cd_law_verdict "_law_verdict" = true)
    (k__law_verdict : PySem.W.keepIn K (.ref f_law_verdict) = true)
    (a__law_built : PySem.W.nsIn K mainGlobals "_law_built" = some (some (.ref f_law_built)))
    (l__law_built : K.lookup f_law_built = some ⟨oc_law_built, od_law_built, .func (PySem.W.fnOf "_law_built" "_law_built" (defArgs s__law_built) (defBody s__law_built) (defScope s__law_built) .none kV_law_built dc_law_built pm_law_built an_law_built cd_law_built ct_law_built), sl_law_built⟩)
    (c__law_built : PySem.W.codeIn K cd_law_built "_law_built" = true)
    (k__law_built : PySem.W.keepIn K (.ref f_law_built) = true)
    (a_law : PySem.W.nsIn K mainGlobals "law" = some (some (.ref flaw)))
    (l_law : K.lookup flaw = some ⟨oclaw, odlaw, .func (PySem.W.fnOf "law" "law" (defArgs s_law) (defBody s_law) (defScope s_law) .none kVlaw dclaw pmlaw anlaw cdlaw ctlaw), sllaw⟩)
    (c_law : PySem.W.codeIn K cdlaw "law" = true)
    (k_law : PySem.W.keepIn K (.ref flaw) = true)
    (al_collect_collecting : PySem.W.nsIn K mainGlobals "collect_collecting" = some (some (.ref fcollect))) : Wd l.prog K mg :=
  { n_all := PySem.W.mg_none_of X G z_all,
    n_bool := PySem.W.mg_none_of X G z_bool,
    n_int := PySem.W.mg_none_of X G z_int,
    n_isinstance := PySem.W.mg_none_of X G z_isinstance,
    n_len := PySem.W.mg_none_of X G z_len,
    n_list := PySem.W.mg_none_of X G z_list,
    n_min := PySem.W.mg_none_of X G z_min,
    n_range := PySem.W.mg_none_of X G z_range,
    n_sorted := PySem.W.mg_none_of X G z_sorted,
    n_str := PySem.W.mg_none_of X G z_str,
    n_tuple := PySem.W.mg_none_of X G z_tuple,
    n_zip := PySem.W.mg_none_of X G z_zip,
    t_NIL := t_NIL, g_NIL := PySem.W.mg_of X G c_NIL,
    t_HEADER := t_HEADER, g_HEADER := PySem.W.mg_of X G c_HEADER,
    t_ROOTS := t_ROOTS, g_ROOTS := PySem.W.mg_of X G c_ROOTS,
    c_Comparison := C_Comparison, g_Comparison := PySem.W.mg_of X G cl_Comparison,
    C_Comparison := ⟨pg_Comparison, hd_Comparison, po_Comparison, sa_Comparison⟩,
    na_Comparison_one := na_Comparison_one,
    na_Comparison_other := na_Comparison_other,
    na_Comparison_there := na_Comparison_there,
    na_Comparison_back := na_Comparison_back,
    na_Comparison_first := na_Comparison_first,
    c_Store := C_Store, g_Store := PySem.W.mg_of X G cl_Store,
    C_Store := ⟨pg_Store, hd_Store, po_Store, sa_Store⟩,
    na_Store_room := na_Store_room,
    na_Store_entries := na_Store_entries,
    na_Store_words := na_Store_words,
    na_Store__places := na_Store__places,
    na_Store__least := na_Store__least,
    c_Space := C_Space, g_Space := PySem.W.mg_of X G cl_Space,
    C_Space := ⟨pg_Space, hd_Space, po_Space, sa_Space⟩,
    na_Space_store := na_Space_store,
    na_Space_pressure := na_Space_pressure,
    na_Space_always := na_Space_always,
    na_Space_allocations := na_Space_allocations,
    na_Space_collections := na_Space_collections,
    na_Space__roots := na_Space__roots,
    na_Space__held := na_Space__held,
    na_Space__saved := na_Space__saved,
    f_is_ref := fis_ref, fd_is_ref := _, F_is_ref := fun_mk (st := s_is_ref) l_is_ref c_is_ref k_is_ref,
    g_is_ref := PySem.W.mg_of X G a_is_ref,
    b_is_ref := (fun_mk (st := s_is_ref) l_is_ref c_is_ref k_is_ref).binds (ps := ["word"]) fun _ _ _ _ _ _ us hl => match us, hl with | [_], _ => rfl,
    f_ref_of := fref_of, fd_ref_of := _, F_ref_of := fun_mk (st := s_ref_of) l_ref_of c_ref_of k_ref_of,
    g_ref_of := PySem.W.mg_of X G a_ref_of,
    b_ref_of := (fun_mk (st := s_ref_of) l_ref_of c_ref_of k_ref_of).binds (ps := ["word"]) fun _ _ _ _ _ _ us hl => match us, hl with | [_], _ => rfl,
    f_reached := freached, fd_reached := _, F_reached := fun_mk (st := s_reached) l_reached c_reached k_reached,
    g_reached := PySem.W.mg_of X G a_reached,
    b_reached := (fun_mk (st := s_reached) l_reached c_reached k_reached).binds (ps := ["store", "roots"]) fun _ _ _ _ _ _ us hl => match us, hl with | [_, _], _ => rfl,
    f_collect := fcollect, fd_collect := _, F_collect := fun_mk (st := s_collect) l_collect c_collect k_collect,
    g_collect := PySem.W.mg_of X G a_collect,
    b_collect := (fun_mk (st := s_collect) l_collect c_collect k_collect).binds (ps := ["store", "roots"]) fun _ _ _ _ _ _ us hl => match us, hl with | [_, _], _ => rfl,
    f_object_of := fobject_of, fd_object_of := _, F_object_of := fun_mk (st := s_object_of) l_object_of c_object_of k_object_of,
    g_object_of := PySem.W.mg_of X G a_object_of,
    b_object_of := (fun_mk (st := s_object_of) l_object_of c_object_of k_object_of).binds (ps := ["space", "word"]) fun _ _ _ _ _ _ us hl => match us, hl with | [_, _], _ => rfl,
    f_row_of := frow_of, fd_row_of := _, F_row_of := fun_mk (st := s_row_of) l_row_of c_row_of k_row_of,
    g_row_of := PySem.W.mg_of X G a_row_of,
    b_row_of := (fun_mk (st := s_row_of) l_row_of c_row_of k_row_of).binds (ps := ["space", "number"]) fun _ _ _ _ _ _ us hl => match us, hl with | [_, _], _ => rfl,
    f_word_at := fword_at, fd_word_at := _, F_word_at := fun_mk (st := s_word_at) l_word_at c_word_at k_word_at,
    g_word_at := PySem.W.mg_of X G a_word_at,
    b_word_at := (fun_mk (st := s_word_at) l_word_at c_word_at k_word_at).binds (ps := ["space", "path"]) fun _ _ _ _ _ _ us hl => match us, hl with | [_, _], _ => rfl,
    f_Comparison___init__ := fComparison___init__, fd_Comparison___init__ := _, F_Comparison___init__ := fun_mk (st := s_Comparison___init__) l_Comparison___init__ c_Comparison___init__ k_Comparison___init__,
    M_Comparison := ⟨mk_Comparison, a_Comparison___init__, fn_Comparison___init__, kp_Comparison⟩,
    b_Comparison___init__ := (fun_mk (st := s_Comparison___init__) l_Comparison___init__ c_Comparison___init__ k_Comparison___init__).binds (ps := ["self", "one", "other"]) fun _ _ _ _ _ _ us hl => match us, hl with | [_, _, _], _ => rfl,
    f_Comparison_clash := fComparison_clash, fd_Comparison_clash := _, F_Comparison_clash := fun_mk (st := s_Comparison_clash) l_Comparison_clash c_Comparison_clash k_Comparison_clash,
    m_Comparison_clash := ⟨a_Comparison_clash, fn_Comparison_clash, k_Comparison_clash⟩,
    b_Comparison_clash := (fun_mk (st := s_Comparison_clash) l_Comparison_clash c_Comparison_clash k_Comparison_clash).binds (ps := ["self", "number", "match", "path"]) fun _ _ _ _ _ _ us hl => match us, hl with | [_, _, _, _], _ => rfl,
    f_Comparison_met := fComparison_met, fd_Comparison_met := _, F_Comparison_met := fun_mk (st := s_Comparison_met) l_Comparison_met c_Comparison_met k_Comparison_met,
    m_Comparison_met := ⟨a_Comparison_met, fn_Comparison_met, k_Comparison_met⟩,
    b_Comparison_met := (fun_mk (st := s_Comparison_met) l_Comparison_met c_Comparison_met k_Comparison_met).binds (ps := ["self", "path", "word", "match"]) fun _ _ _ _ _ _ us hl => match us, hl with | [_, _, _, _], _ => rfl,
    f_Comparison_verdict := fComparison_verdict, fd_Comparison_verdict := _, F_Comparison_verdict := fun_mk (st := s_Comparison_verdict) l_Comparison_verdict c_Comparison_verdict k_Comparison_verdict,
    m_Comparison_verdict := ⟨a_Comparison_verdict, fn_Comparison_verdict, k_Comparison_verdict⟩,
    b_Comparison_verdict := (fun_mk (st := s_Comparison_verdict) l_Comparison_verdict c_Comparison_verdict k_Comparison_verdict).binds (ps := ["self"]) fun _ _ _ _ _ _ us hl => match us, hl with | [_], _ => rfl,
    f_following := ffollowing, fd_following := _, F_following := fun_mk (st := s_following) l_following c_following k_following,
    g_following := PySem.W.mg_of X G a_following,
    b_following := (fun_mk (st := s_following) l_following c_following k_following).binds (ps := ["path", "row", "other"]) fun _ _ _ _ _ _ us hl => match us, hl with | [_, _, _], _ => rfl,
    f_compare := fcompare, fd_compare := _, F_compare := fun_mk (st := s_compare) l_compare c_compare k_compare,
    g_compare := PySem.W.mg_of X G a_compare,
    b_compare := (fun_mk (st := s_compare) l_compare c_compare k_compare).binds (ps := ["one", "other"]) fun _ _ _ _ _ _ us hl => match us, hl with | [_, _], _ => rfl,
    f_both_at := fboth_at, fd_both_at := _, F_both_at := fun_mk (st := s_both_at) l_both_at c_both_at k_both_at,
    g_both_at := PySem.W.mg_of X G a_both_at,
    b_both_at := (fun_mk (st := s_both_at) l_both_at c_both_at k_both_at).binds (ps := ["one", "other", "path"]) fun _ _ _ _ _ _ us hl => match us, hl with | [_, _, _], _ => rfl,
    f_words_differ := fwords_differ, fd_words_differ := _, F_words_differ := fun_mk (st := s_words_differ) l_words_differ c_words_differ k_words_differ,
    g_words_differ := PySem.W.mg_of X G a_words_differ,
    b_words_differ := (fun_mk (st := s_words_differ) l_words_differ c_words_differ k_words_differ).binds (ps := ["one", "other", "path"]) fun _ _ _ _ _ _ us hl => match us, hl with | [_, _, _], _ => rfl,
    f_sizes_differ := fsizes_differ, fd_sizes_differ := _, F_sizes_differ := fun_mk (st := s_sizes_differ) l_sizes_differ c_sizes_differ k_sizes_differ,
    g_sizes_differ := PySem.W.mg_of X G a_sizes_differ,
    b_sizes_differ := (fun_mk (st := s_sizes_differ) l_sizes_differ c_sizes_differ k_sizes_differ).binds (ps := ["one", "other", "path"]) fun _ _ _ _ _ _ us hl => match us, hl with | [_, _, _], _ => rfl,
    f_sharing_differs := fsharing_differs, fd_sharing_differs := _, F_sharing_differs := fun_mk (st := s_sharing_differs) l_sharing_differs c_sharing_differs k_sharing_differs,
    g_sharing_differs := PySem.W.mg_of X G a_sharing_differs,
    b_sharing_differs := (fun_mk (st := s_sharing_differs) l_sharing_differs c_sharing_differs k_sharing_differs).binds (ps := ["one", "other", "path", "second"]) fun _ _ _ _ _ _ us hl => match us, hl with | [_, _, _, _], _ => rfl,
    f_rows_match := frows_match, fd_rows_match := _, F_rows_match := fun_mk (st := s_rows_match) l_rows_match c_rows_match k_rows_match,
    g_rows_match := PySem.W.mg_of X G a_rows_match,
    b_rows_match := (fun_mk (st := s_rows_match) l_rows_match c_rows_match k_rows_match).binds (ps := ["one", "other", "there", "row", "match"]) fun _ _ _ _ _ _ us hl => match us, hl with | [_, _, _, _, _], _ => rfl,
    f_pairs_match := fpairs_match, fd_pairs_match := _, F_pairs_match := fun_mk (st := s_pairs_match) l_pairs_match c_pairs_match k_pairs_match,
    g_pairs_match := PySem.W.mg_of X G a_pairs_match,
    b_pairs_match := (fun_mk (st := s_pairs_match) l_pairs_match c_pairs_match k_pairs_match).binds (ps := ["one", "other", "pairs"]) fun _ _ _ _ _ _ us hl => match us, hl with | [_, _, _], _ => rfl,
    f_judge := fjudge, fd_judge := _, F_judge := fun_mk (st := s_judge) l_judge c_judge k_judge,
    g_judge := PySem.W.mg_of X G a_judge,
    b_judge := (fun_mk (st := s_judge) l_judge c_judge k_judge).binds (ps := ["one", "other", "verdict"]) fun _ _ _ _ _ _ us hl => match us, hl with | [_, _, _], _ => rfl,
    f_Store___init__ := fStore___init__, fd_Store___init__ := _, F_Store___init__ := fun_mk (st := s_Store___init__) l_Store___init__ c_Store___init__ k_Store___init__,
    M_Store := ⟨mk_Store, a_Store___init__, fn_Store___init__, kp_Store⟩,
    b_Store___init__ := (fun_mk (st := s_Store___init__) l_Store___init__ c_Store___init__ k_Store___init__).binds (ps := ["self", "room", "entries"]) fun _ _ _ _ _ _ us hl => match us, hl with | [_, _, _], _ => rfl,
    f_Store_exists := fStore_exists, fd_Store_exists := _, F_Store_exists := fun_mk (st := s_Store_exists) l_Store_exists c_Store_exists k_Store_exists,
    m_Store_exists := ⟨a_Store_exists, fn_Store_exists, k_Store_exists⟩,
    b_Store_exists := (fun_mk (st := s_Store_exists) l_Store_exists c_Store_exists k_Store_exists).binds (ps := ["self", "number"]) fun _ _ _ _ _ _ us hl => match us, hl with | [_, _], _ => rfl,
    f_Store_numbers := fStore_numbers, fd_Store_numbers := _, F_Store_numbers := fun_mk (st := s_Store_numbers) l_Store_numbers c_Store_numbers k_Store_numbers,
    m_Store_numbers := ⟨a_Store_numbers, fn_Store_numbers, k_Store_numbers⟩,
    b_Store_numbers := (fun_mk (st := s_Store_numbers) l_Store_numbers c_Store_numbers k_Store_numbers).binds (ps := ["self"]) fun _ _ _ _ _ _ us hl => match us, hl with | [_], _ => rfl,
    f_Store_free_number := fStore_free_number, fd_Store_free_number := _, F_Store_free_number := fun_mk (st := s_Store_free_number) l_Store_free_number c_Store_free_number k_Store_free_number,
    m_Store_free_number := ⟨a_Store_free_number, fn_Store_free_number, k_Store_free_number⟩,
    b_Store_free_number := (fun_mk (st := s_Store_free_number) l_Store_free_number c_Store_free_number k_Store_free_number).binds (ps := ["self"]) fun _ _ _ _ _ _ us hl => match us, hl with | [_], _ => rfl,
    f_Store_allocate := fStore_allocate, fd_Store_allocate := _, F_Store_allocate := fun_mk (st := s_Store_allocate) l_Store_allocate c_Store_allocate k_Store_allocate,
    m_Store_allocate := ⟨a_Store_allocate, fn_Store_allocate, k_Store_allocate⟩,
    b_Store_allocate := (fun_mk (st := s_Store_allocate) l_Store_allocate c_Store_allocate k_Store_allocate).binds (ps := ["self", "kind", "size"]) fun _ _ _ _ _ _ us hl => match us, hl with | [_, _, _], _ => rfl,
    f_Store_size := fStore_size, fd_Store_size := _, F_Store_size := fun_mk (st := s_Store_size) l_Store_size c_Store_size k_Store_size,
    m_Store_size := ⟨a_Store_size, fn_Store_size, k_Store_size⟩,
    b_Store_size := (fun_mk (st := s_Store_size) l_Store_size c_Store_size k_Store_size).binds (ps := ["self", "number"]) fun _ _ _ _ _ _ us hl => match us, hl with | [_, _], _ => rfl,
    f_Store_kind := fStore_kind, fd_Store_kind := _, F_Store_kind := fun_mk (st := s_Store_kind) l_Store_kind c_Store_kind k_Store_kind,
    m_Store_kind := ⟨a_Store_kind, fn_Store_kind, k_Store_kind⟩,
    b_Store_kind := (fun_mk (st := s_Store_kind) l_Store_kind c_Store_kind k_Store_kind).binds (ps := ["self", "number"]) fun _ _ _ _ _ _ us hl => match us, hl with | [_, _], _ => rfl,
    f_Store_put := fStore_put, fd_Store_put := _, F_Store_put := fun_mk (st := s_Store_put) l_Store_put c_Store_put k_Store_put,
    m_Store_put := ⟨a_Store_put, fn_Store_put, k_Store_put⟩,
    b_Store_put := (fun_mk (st := s_Store_put) l_Store_put c_Store_put k_Store_put).binds (ps := ["self", "number", "at", "word"]) fun _ _ _ _ _ _ us hl => match us, hl with | [_, _, _, _], _ => rfl,
    f_Store_slots := fStore_slots, fd_Store_slots := _, F_Store_slots := fun_mk (st := s_Store_slots) l_Store_slots c_Store_slots k_Store_slots,
    m_Store_slots := ⟨a_Store_slots, fn_Store_slots, k_Store_slots⟩,
    b_Store_slots := (fun_mk (st := s_Store_slots) l_Store_slots c_Store_slots k_Store_slots).binds (ps := ["self", "number"]) fun _ _ _ _ _ _ us hl => match us, hl with | [_, _], _ => rfl,
    f_Store_drop := fStore_drop, fd_Store_drop := _, F_Store_drop := fun_mk (st := s_Store_drop) l_Store_drop c_Store_drop k_Store_drop,
    m_Store_drop := ⟨a_Store_drop, fn_Store_drop, k_Store_drop⟩,
    b_Store_drop := (fun_mk (st := s_Store_drop) l_Store_drop c_Store_drop k_Store_drop).binds (ps := ["self", "number"]) fun _ _ _ _ _ _ us hl => match us, hl with | [_, _], _ => rfl,
    f_Store_close_up := fStore_close_up, fd_Store_close_up := _, F_Store_close_up := fun_mk (st := s_Store_close_up) l_Store_close_up c_Store_close_up k_Store_close_up, cA_Store_close_up := cAStore_close_up, PT_Store_close_up := PTStore_close_up, hd_Store_close_up := x3_Store_close_up, np_Store_close_up := x4_Store_close_up, G_Store_close_up := ⟨_, _, _, _, _, _, _, _, rfl, l_Store_close_up, c_Store_close_up⟩,
    m_Store_close_up := ⟨a_Store_close_up, fn_Store_close_up, k_Store_close_up⟩,
    b_Store_close_up := (fun_mk (st := s_Store_close_up) l_Store_close_up c_Store_close_up k_Store_close_up).binds (ps := ["self"]) fun _ _ _ _ _ _ us hl => match us, hl with | [_], _ => rfl,
    f_Store_exchange := fStore_exchange, fd_Store_exchange := _, F_Store_exchange := fun_mk (st := s_Store_exchange) l_Store_exchange c_Store_exchange k_Store_exchange,
    m_Store_exchange := ⟨a_Store_exchange, fn_Store_exchange, k_Store_exchange⟩,
    b_Store_exchange := (fun_mk (st := s_Store_exchange) l_Store_exchange c_Store_exchange k_Store_exchange).binds (ps := ["self", "first", "second"]) fun _ _ _ _ _ _ us hl => match us, hl with | [_, _, _], _ => rfl,
    f_Space___init__ := fSpace___init__, fd_Space___init__ := _, F_Space___init__ := fun_mk (st := s_Space___init__) l_Space___init__ c_Space___init__ k_Space___init__,
    M_Space := ⟨mk_Space, a_Space___init__, fn_Space___init__, kp_Space⟩,
    b_Space___init__ := (fun_mk (st := s_Space___init__) l_Space___init__ c_Space___init__ k_Space___init__).binds (ps := ["self", "room", "entries"]) fun _ _ _ _ _ _ us hl => match us, hl with | [_, _, _], _ => rfl,
    f_Space_set_root := fSpace_set_root, fd_Space_set_root := _, F_Space_set_root := fun_mk (st := s_Space_set_root) l_Space_set_root c_Space_set_root k_Space_set_root,
    m_Space_set_root := ⟨a_Space_set_root, fn_Space_set_root, k_Space_set_root⟩,
    b_Space_set_root := (fun_mk (st := s_Space_set_root) l_Space_set_root c_Space_set_root k_Space_set_root).binds (ps := ["self", "k", "word"]) fun _ _ _ _ _ _ us hl => match us, hl with | [_, _, _], _ => rfl,
    f_Space_hold := fSpace_hold, fd_Space_hold := _, F_Space_hold := fun_mk (st := s_Space_hold) l_Space_hold c_Space_hold k_Space_hold,
    m_Space_hold := ⟨a_Space_hold, fn_Space_hold, k_Space_hold⟩,
    b_Space_hold := (fun_mk (st := s_Space_hold) l_Space_hold c_Space_hold k_Space_hold).binds (ps := ["self", "word"]) fun _ _ _ _ _ _ us hl => match us, hl with | [_, _], _ => rfl,
    f_Space_held := fSpace_held, fd_Space_held := _, F_Space_held := fun_mk (st := s_Space_held) l_Space_held c_Space_held k_Space_held,
    m_Space_held := ⟨a_Space_held, fn_Space_held, k_Space_held⟩,
    b_Space_held := (fun_mk (st := s_Space_held) l_Space_held c_Space_held k_Space_held).binds (ps := ["self"]) fun _ _ _ _ _ _ us hl => match us, hl with | [_], _ => rfl,
    f_Space_all_roots := fSpace_all_roots, fd_Space_all_roots := _, F_Space_all_roots := fun_mk (st := s_Space_all_roots) l_Space_all_roots c_Space_all_roots k_Space_all_roots,
    m_Space_all_roots := ⟨a_Space_all_roots, fn_Space_all_roots, k_Space_all_roots⟩,
    b_Space_all_roots := (fun_mk (st := s_Space_all_roots) l_Space_all_roots c_Space_all_roots k_Space_all_roots).binds (ps := ["self"]) fun _ _ _ _ _ _ us hl => match us, hl with | [_], _ => rfl,
    f_Space_collect := fSpace_collect, fd_Space_collect := _, F_Space_collect := fun_mk (st := s_Space_collect) l_Space_collect c_Space_collect k_Space_collect,
    m_Space_collect := ⟨a_Space_collect, fn_Space_collect, k_Space_collect⟩,
    b_Space_collect := (fun_mk (st := s_Space_collect) l_Space_collect c_Space_collect k_Space_collect).binds (ps := ["self"]) fun _ _ _ _ _ _ us hl => match us, hl with | [_], _ => rfl,
    f_Space_collect_with := fSpace_collect_with, fd_Space_collect_with := _, F_Space_collect_with := fun_mk (st := s_Space_collect_with) l_Space_collect_with c_Space_collect_with k_Space_collect_with,
    m_Space_collect_with := ⟨a_Space_collect_with, fn_Space_collect_with, k_Space_collect_with⟩,
    b_Space_collect_with := (fun_mk (st := s_Space_collect_with) l_Space_collect_with c_Space_collect_with k_Space_collect_with).binds (ps := ["self", "word"]) fun _ _ _ _ _ _ us hl => match us, hl with | [_, _], _ => rfl,
    f_Space_new := fSpace_new, fd_Space_new := _, F_Space_new := fun_mk (st := s_Space_new) l_Space_new c_Space_new k_Space_new,
    m_Space_new := ⟨a_Space_new, fn_Space_new, k_Space_new⟩,
    b_Space_new := (fun_mk (st := s_Space_new) l_Space_new c_Space_new k_Space_new).binds (ps := ["self", "kind", "size"]) fun _ _ _ _ _ _ us hl => match us, hl with | [_, _, _], _ => rfl,
    f_Space_fitted := fSpace_fitted, fd_Space_fitted := _, F_Space_fitted := fun_mk (st := s_Space_fitted) l_Space_fitted c_Space_fitted k_Space_fitted,
    m_Space_fitted := ⟨a_Space_fitted, fn_Space_fitted, k_Space_fitted⟩,
    b_Space_fitted := (fun_mk (st := s_Space_fitted) l_Space_fitted c_Space_fitted k_Space_fitted).binds (ps := ["self", "kind", "size"]) fun _ _ _ _ _ _ us hl => match us, hl with | [_, _, _], _ => rfl,
    f__law_number := f_law_number, fd__law_number := _, F__law_number := fun_mk (st := s__law_number) l__law_number c__law_number k__law_number,
    g__law_number := PySem.W.mg_of X G a__law_number,
    b__law_number := (fun_mk (st := s__law_number) l__law_number c__law_number k__law_number).binds (ps := ["_law_cell", "_law_k"]) fun _ _ _ _ _ _ us hl => match us, hl with | [_, _], _ => rfl,
    f__law_word := f_law_word, fd__law_word := _, F__law_word := fun_mk (st := s__law_word) l__law_word c__law_word k__law_word,
    g__law_word := PySem.W.mg_of X G a__law_word,
    b__law_word := (fun_mk (st := s__law_word) l__law_word c__law_word k__law_word).binds (ps := ["_law_x", "_law_many"]) fun _ _ _ _ _ _ us hl => match us, hl with | [_, _], _ => rfl,
    f__law_is := f_law_is, fd__law_is := _, F__law_is := fun_mk (st := s__law_is) l__law_is c__law_is k__law_is,
    g__law_is := PySem.W.mg_of X G a__law_is,
    b__law_is := (fun_mk (st := s__law_is) l__law_is c__law_is k__law_is).binds (ps := ["_law_actual", "_law_due_here"]) fun _ _ _ _ _ _ us hl => match us, hl with | [_, _], _ => rfl,
    f__law_same := f_law_same, fd__law_same := _, F__law_same := fun_mk (st := s__law_same) l__law_same c__law_same k__law_same,
    g__law_same := PySem.W.mg_of X G a__law_same,
    b__law_same := (fun_mk (st := s__law_same) l__law_same c__law_same k__law_same).binds (ps := ["_law_actual", "_law_due_here"]) fun _ _ _ _ _ _ us hl => match us, hl with | [_, _], _ => rfl,
    f__law_sizes := f_law_sizes, fd__law_sizes := _, F__law_sizes := fun_mk (st := s__law_sizes) l__law_sizes c__law_sizes k__law_sizes,
    g__law_sizes := PySem.W.mg_of X G a__law_sizes,
    b__law_sizes := (fun_mk (st := s__law_sizes) l__law_sizes c__law_sizes k__law_sizes).binds (ps := ["_law_x"]) fun _ _ _ _ _ _ us hl => match us, hl with | [_], _ => rfl,
    f__law_rows := f_law_rows, fd__law_rows := _, F__law_rows := fun_mk (st := s__law_rows) l__law_rows c__law_rows k__law_rows,
    g__law_rows := PySem.W.mg_of X G a__law_rows,
    b__law_rows := (fun_mk (st := s__law_rows) l__law_rows c__law_rows k__law_rows).binds (ps := ["_law_sizes_here", "_law_x"]) fun _ _ _ _ _ _ us hl => match us, hl with | [_, _], _ => rfl,
    f__law_roots := f_law_roots, fd__law_roots := _, F__law_roots := fun_mk (st := s__law_roots) l__law_roots c__law_roots k__law_roots,
    g__law_roots := PySem.W.mg_of X G a__law_roots,
    b__law_roots := (fun_mk (st := s__law_roots) l__law_roots c__law_roots k__law_roots).binds (ps := ["_law_many", "_law_x"]) fun _ _ _ _ _ _ us hl => match us, hl with | [_, _], _ => rfl,
    f__law_space := f_law_space, fd__law_space := _, F__law_space := fun_mk (st := s__law_space) l__law_space c__law_space k__law_space,
    g__law_space := PySem.W.mg_of X G a__law_space,
    b__law_space := (fun_mk (st := s__law_space) l__law_space c__law_space k__law_space).binds (ps := ["_law_rows_here", "_law_words"]) fun _ _ _ _ _ _ us hl => match us, hl with | [_, _], _ => rfl,
    f__law_kept := f_law_kept, fd__law_kept := _, F__law_kept := fun_mk (st := s__law_kept) l__law_kept c__law_kept k__law_kept,
    g__law_kept := PySem.W.mg_of X G a__law_kept,
    b__law_kept := (fun_mk (st := s__law_kept) l__law_kept c__law_kept k__law_kept).binds (ps := ["_law_space_here", "_law_rows_here", "_law_words"]) fun _ _ _ _ _ _ us hl => match us, hl with | [_, _, _], _ => rfl,
    f__law_order := f_law_order, fd__law_order := _, F__law_order := fun_mk (st := s__law_order) l__law_order c__law_order k__law_order,
    g__law_order := PySem.W.mg_of X G a__law_order,
    b__law_order := (fun_mk (st := s__law_order) l__law_order c__law_order k__law_order).binds (ps := ["_law_many", "_law_x"]) fun _ _ _ _ _ _ us hl => match us, hl with | [_, _], _ => rfl,
    f__law_turned := f_law_turned, fd__law_turned := _, F__law_turned := fun_mk (st := s__law_turned) l__law_turned c__law_turned k__law_turned,
    g__law_turned := PySem.W.mg_of X G a__law_turned,
    b__law_turned := (fun_mk (st := s__law_turned) l__law_turned c__law_turned k__law_turned).binds (ps := ["_law_word_here", "_law_order_here", "_law_many"]) fun _ _ _ _ _ _ us hl => match us, hl with | [_, _, _], _ => rfl,
    f__law_twin := f_law_twin, fd__law_twin := _, F__law_twin := fun_mk (st := s__law_twin) l__law_twin c__law_twin k__law_twin,
    g__law_twin := PySem.W.mg_of X G a__law_twin,
    b__law_twin := (fun_mk (st := s__law_twin) l__law_twin c__law_twin k__law_twin).binds (ps := ["_law_rows_here", "_law_words", "_law_order_here"]) fun _ _ _ _ _ _ us hl => match us, hl with | [_, _, _], _ => rfl,
    f__law_change := f_law_change, fd__law_change := _, F__law_change := fun_mk (st := s__law_change) l__law_change c__law_change k__law_change,
    g__law_change := PySem.W.mg_of X G a__law_change,
    b__law_change := (fun_mk (st := s__law_change) l__law_change c__law_change k__law_change).binds (ps := ["_law_rows_here", "_law_words", "_law_x"]) fun _ _ _ _ _ _ us hl => match us, hl with | [_, _, _], _ => rfl,
    f__law_walk := f_law_walk, fd__law_walk := _, F__law_walk := fun_mk (st := s__law_walk) l__law_walk c__law_walk k__law_walk,
    g__law_walk := PySem.W.mg_of X G a__law_walk,
    b__law_walk := (fun_mk (st := s__law_walk) l__law_walk c__law_walk k__law_walk).binds (ps := ["_law_world", "_law_path_here"]) fun _ _ _ _ _ _ us hl => match us, hl with | [_, _], _ => rfl,
    f__law_thing := f_law_thing, fd__law_thing := _, F__law_thing := fun_mk (st := s__law_thing) l__law_thing c__law_thing k__law_thing,
    g__law_thing := PySem.W.mg_of X G a__law_thing,
    b__law_thing := (fun_mk (st := s__law_thing) l__law_thing c__law_thing k__law_thing).binds (ps := ["_law_world", "_law_word_here"]) fun _ _ _ _ _ _ us hl => match us, hl with | [_, _], _ => rfl,
    f__law_rows_fit := f_law_rows_fit, fd__law_rows_fit := _, F__law_rows_fit := fun_mk (st := s__law_rows_fit) l__law_rows_fit c__law_rows_fit k__law_rows_fit,
    g__law_rows_fit := PySem.W.mg_of X G a__law_rows_fit,
    b__law_rows_fit := (fun_mk (st := s__law_rows_fit) l__law_rows_fit c__law_rows_fit k__law_rows_fit).binds (ps := ["_law_one", "_law_other", "_law_there", "_law_row", "_law_twin_here"]) fun _ _ _ _ _ _ us hl => match us, hl with | [_, _, _, _, _], _ => rfl,
    f__law_pairs_hold := f_law_pairs_hold, fd__law_pairs_hold := _, F__law_pairs_hold := fun_mk (st := s__law_pairs_hold) l__law_pairs_hold c__law_pairs_hold k__law_pairs_hold,
    g__law_pairs_hold := PySem.W.mg_of X G a__law_pairs_hold,
    b__law_pairs_hold := (fun_mk (st := s__law_pairs_hold) l__law_pairs_hold c__law_pairs_hold k__law_pairs_hold).binds (ps := ["_law_one", "_law_other", "_law_pairs"]) fun _ _ _ _ _ _ us hl => match us, hl with | [_, _, _], _ => rfl,
    f__law_holds := f_law_holds, fd__law_holds := _, F__law_holds := fun_mk (st := s__law_holds) l__law_holds c__law_holds k__law_holds,
    g__law_holds := PySem.W.mg_of X G a__law_holds,
    b__law_holds := (fun_mk (st := s__law_holds) l__law_holds c__law_holds k__law_holds).binds (ps := ["_law_one", "_law_other", "_law_verdict_here"]) fun _ _ _ _ _ _ us hl => match us, hl with | [_, _, _], _ => rfl,
    f__law_due := f_law_due, fd__law_due := _, F__law_due := fun_mk (st := s__law_due) l__law_due c__law_due k__law_due,
    g__law_due := PySem.W.mg_of X G a__law_due,
    b__law_due := (fun_mk (st := s__law_due) l__law_due c__law_due k__law_due).binds (ps := ["_law_one", "_law_other"]) fun _ _ _ _ _ _ us hl => match us, hl with | [_, _], _ => rfl,
    f__law_tuple_is := f_law_tuple_is, fd__law_tuple_is := _, F__law_tuple_is := fun_mk (st := s__law_tuple_is) l__law_tuple_is c__law_tuple_is k__law_tuple_is,
    g__law_tuple_is := PySem.W.mg_of X G a__law_tuple_is,
    b__law_tuple_is := (fun_mk (st := s__law_tuple_is) l__law_tuple_is c__law_tuple_is k__law_tuple_is).binds (ps := ["_law_told", "_law_due_here"]) fun _ _ _ _ _ _ us hl => match us, hl with | [_, _], _ => rfl,
    f__law_path := f_law_path, fd__law_path := _, F__law_path := fun_mk (st := s__law_path) l__law_path c__law_path k__law_path,
    g__law_path := PySem.W.mg_of X G a__law_path,
    b__law_path := (fun_mk (st := s__law_path) l__law_path c__law_path k__law_path).binds (ps := ["_law_world", "_law_x"]) fun _ _ _ _ _ _ us hl => match us, hl with | [_, _], _ => rfl,
    f__law_verdict := f_law_verdict, fd__law_verdict := _, F__law_verdict := fun_mk (st := s__law_verdict) l__law_verdict c__law_verdict k__law_verdict,
    g__law_verdict := PySem.W.mg_of X G a__law_verdict,
    b__law_verdict := (fun_mk (st := s__law_verdict) l__law_verdict c__law_verdict k__law_verdict).binds (ps := ["_law_one", "_law_other", "_law_pairs", "_law_x"]) fun _ _ _ _ _ _ us hl => match us, hl with | [_, _, _, _], _ => rfl,
    f__law_built := f_law_built, fd__law_built := _, F__law_built := fun_mk (st := s__law_built) l__law_built c__law_built k__law_built,
    g__law_built := PySem.W.mg_of X G a__law_built,
    b__law_built := (fun_mk (st := s__law_built) l__law_built c__law_built k__law_built).binds (ps := ["_law_cells"]) fun _ _ _ _ _ _ us hl => match us, hl with | [_], _ => rfl,
    f_law := flaw, fd_law := _, F_law := fun_mk (st := s_law) l_law c_law k_law,
    g_law := PySem.W.mg_of X G a_law,
    b_law := (fun_mk (st := s_law) l_law c_law k_law).binds (ps := ["_law_script"]) fun _ _ _ _ _ _ us hl => match us, hl with | [_], _ => rfl,
    g_collect_collecting := PySem.W.mg_of X G al_collect_collecting }

structure WT (P : Program) (K : PySem.W.Frag) (mg : Str → Option Value) (base : Heap) extends Wd P K mg where
  TB : LamX.TabB base mg cA_Store_close_up PT_Store_close_up
abbrev qLam : Str := (envOfC "Store.close_up" (defScope s_Store_close_up) 0 0 .none).qual ++ "<lambda>"
section
variable {P : Program} {w : World} {K : PySem.W.Frag} {mg : Str → Option Value} {base : Heap}
end

end LX
namespace LX
open PySem PySem.Spec PyProof.Rows L2 NdefX
section
variable {P : Program} {w : World} {K : PySem.W.Frag} {mg : Str → Option Value} {base : Heap}
def sF (room entries : Int) (wl pl : Addr) (least : Int) : List (Str × V) := [("room", .int room), ("entries", .int entries), ("words", .ref wl), ("_places", .ref pl), ("_least", .int least)]
structure StoreAt (H : Hp) (C st dx wl pl : Addr) (room entries least : Int) (ws : List Int) (kvs : List (Key × V)) : Prop where
  st : H st = some (.ins C dx (sF room entries wl pl least))
  wl : H wl = some (.lst (ws.map V.int))
  pl : H pl = some (.dK kvs)
theorem int_at {ws : List Int} {i : Nat} {z : Int} (h : ws[i]? = some z) : (ws.map V.int)[i]? = some (V.int z) := by rw [List.getElem?_map, h]; rfl
theorem ixN_nat {n i : Nat} (h : i < n) : ixN n (i : Int) = some i := by
  unfold ixN
  rw [if_pos (by omega), if_pos (by omega)]
  simp
def sp_exists : Addr → Sp := fun C vs H Q _ => ∃ st dx wl pl room entries least ws kvs n, vs = [.ref st, .int n] ∧ StoreAt H C st dx wl pl room entries least ws kvs ∧ Q (.bl (valV kvs (.inl n)).isSome) H
theorem ok_Store_exists (W : WT P K mg base) : FnOk P w K mg base CX0 1 W.f_Store_exists W.fd_Store_exists ["self", "number"] (sp_exists W.c_Store) := by
  refine W.F_Store_exists.ok sc_Store_exists (fun vs H Q E h => ?_) (fun cdv A outer s H vs Q E hr h => ?_)
  · obtain ⟨st, dx, wl, pl, room, entries, least, ws, kvs, n, rfl, _⟩ := h
    rfl
  · obtain ⟨st, dx, wl, pl, room, entries, least, ws, kvs, n, rfl, S, k⟩ := h
    have hu1 := hu_of hr
    have hu64 := hu64_of hr
    refine ⟨_, (pss_one (ps_ret (pe_cmpR (op_inU hu1) (pv 1) (pe_fld (pv 0) rfl) (by first | exact nomark _ | rfl)))), ?_⟩
    refine ⟨_, rfl, _, rfl, st, _, dx, _, _, rfl, S.st, W.C_Store, W.na_Store__places, rfl, ?_⟩
    exact Or.inr ⟨_, DGet.k (k := Sum.inl n) S.pl, k⟩
def sp_size : Addr → Sp := fun C vs H Q _ => ∃ st dx wl pl room entries least ws kvs n, ∃ (p : Nat) (z : Int), vs = [.ref st, .int n] ∧ StoreAt H C st dx wl pl room entries least ws kvs ∧ valV kvs (.inl n) = some (.int (p : Int)) ∧ ws[p + 1]? = some z ∧ Q (.int z) H
theorem ok_Store_size (W : WT P K mg base) : FnOk P w K mg base CX0 1 W.f_Store_size W.fd_Store_size ["self", "number"] (sp_size W.c_Store) := by
  refine W.F_Store_size.ok sc_Store_size (fun vs H Q E h => ?_) (fun cdv A outer s H vs Q E hr h => ?_)
  · obtain ⟨st, dx, wl, pl, room, entries, least, ws, kvs, n, p, z, rfl, _⟩ := h
    rfl
  · obtain ⟨st, dx, wl, pl, room, entries, least, ws, kvs, n, p, z, rfl, S, hp, hz, k⟩ := h
    have hu1 := hu_of hr
    have hu64 := hu64_of hr
    refine ⟨_, (pss_one (ps_ret (pe_ix (ix_U hu1) (pe_fld (pv 0) rfl) (pe_op op_addU (pe_ix (ix_U hu1) (pe_fld (pv 0) rfl) (pv 1) (fun _ _ => rfl)) pe_int) (fun _ _ => rfl)))), ?_⟩
    refine ⟨_, rfl, st, _, dx, _, _, rfl, S.st, W.C_Store, W.na_Store_words, rfl, ?_⟩
    refine ⟨_, rfl, st, _, dx, _, _, rfl, S.st, W.C_Store, W.na_Store__places, rfl, ?_⟩
    refine ⟨_, rfl, Or.inr ⟨_, by rw [← hp]; exact DGet.k (k := Sum.inl n) S.pl, ?_⟩⟩
    exact Or.inl ⟨_, _, _, rfl, Or.inl (SqL.of S.wl), atI_nat (j := p + 1) (int_at hz), k⟩
def sp_kind : Addr → Sp := fun C vs H Q _ => ∃ st dx wl pl room entries least ws kvs n, ∃ (p : Nat) (z : Int), vs = [.ref st, .int n] ∧ StoreAt H C st dx wl pl room entries least ws kvs ∧ valV kvs (.inl n) = some (.int (p : Int)) ∧ ws[p + 2]? = some z ∧ Q (.int z) H
theorem ok_Store_kind (W : WT P K mg base) : FnOk P w K mg base CX0 1 W.f_Store_kind W.fd_Store_kind ["self", "number"] (sp_kind W.c_Store) := by
  refine W.F_Store_kind.ok sc_Store_kind (fun vs H Q E h => ?_) (fun cdv A outer s H vs Q E hr h => ?_)
  · obtain ⟨st, dx, wl, pl, room, entries, least, ws, kvs, n, p, z, rfl, _⟩ := h
    rfl
  · obtain ⟨st, dx, wl, pl, room, entries, least, ws, kvs, n, p, z, rfl, S, hp, hz, k⟩ := h
    have hu1 := hu_of hr
    have hu64 := hu64_of hr
    refine ⟨_, (pss_one (ps_ret (pe_ix (ix_U hu1) (pe_fld (pv 0) rfl) (pe_op op_addU (pe_ix (ix_U hu1) (pe_fld (pv 0) rfl) (pv 1) (fun _ _ => rfl)) pe_int) (fun _ _ => rfl)))), ?_⟩
    refine ⟨_, rfl, st, _, dx, _, _, rfl, S.st, W.C_Store, W.na_Store_words, rfl, ?_⟩
    refine ⟨_, rfl, st, _, dx, _, _, rfl, S.st, W.C_Store, W.na_Store__places, rfl, ?_⟩
    refine ⟨_, rfl, Or.inr ⟨_, by rw [← hp]; exact DGet.k (k := Sum.inl n) S.pl, ?_⟩⟩
    exact Or.inl ⟨_, _, _, rfl, Or.inl (SqL.of S.wl), atI_nat (j := p + 2) (int_at hz), k⟩
theorem set_int (ws : List Int) (i : Nat) (x : Int) : (ws.map V.int).set i (.int x) = (ws.set i x).map V.int := by rw [List.map_set]
def sp_put : Addr → Sp := fun C vs H Q _ => ∃ st dx wl pl room entries least ws kvs n, ∃ (p a : Nat) (x : Int), vs = [.ref st, .int n, .int (a : Int), .int x] ∧ StoreAt H C st dx wl pl room entries least ws kvs ∧ valV kvs (.inl n) = some (.int (p : Int)) ∧ p + 3 + a < ws.length ∧ Q .non (upd H wl (.lst ((ws.set (p + 3 + a) x).map V.int)))
theorem ok_Store_put (W : WT P K mg base) : FnOk P w K mg base CX0 1 W.f_Store_put W.fd_Store_put ["self", "number", "at", "word"] (sp_put W.c_Store) := by
  refine W.F_Store_put.ok sc_Store_put (fun vs H Q E h => ?_) (fun cdv A outer s H vs Q E hr h => ?_)
  · obtain ⟨st, dx, wl, pl, room, entries, least, ws, kvs, n, p, a, z, rfl, _⟩ := h
    rfl
  · obtain ⟨st, dx, wl, pl, room, entries, least, ws, kvs, n, p, a, z, rfl, S, hp, hz, k⟩ := h
    have hu1 := hu_of hr
    have hu64 := hu64_of hr
    refine ⟨_, (pss_one (ps_asg (pv 3) (pg_sub (pe_fld (pv 0) rfl) (pe_op op_addU (pe_op op_addU (pe_ix (ix_U hu1) (pe_fld (pv 0) rfl) (pv 1) (fun _ _ => rfl)) (pe_gi rfl W.g_HEADER)) (pv 2)) set_list))), ?_⟩
    refine ⟨_, rfl, ?_⟩
    refine ⟨_, rfl, st, _, dx, _, _, rfl, S.st, W.C_Store, W.na_Store_words, rfl, ?_⟩
    refine ⟨_, rfl, st, _, dx, _, _, rfl, S.st, W.C_Store, W.na_Store__places, rfl, ?_⟩
    refine ⟨_, rfl, Or.inr ⟨_, by rw [← hp]; exact DGet.k (k := Sum.inl n) S.pl, ?_⟩⟩
    refine ⟨_, rfl, ?_⟩
    refine ⟨wl, _, _, p + 3 + a, rfl, rfl, S.wl, ixN_nat (i := p + 3 + a) (by rw [List.length_map]; exact hz), ?_⟩
    rw [set_int]
    exact k
def seg (ws : List Int) (p n : Nat) : List Int := (ws.drop p).take n
theorem cut_seg {ws : List Int} {p n : Nat} (h : p + n ≤ ws.length) : cutV (ws.map V.int) (some (p : Int)) (some ((p : Int) + (n : Int))) = (seg ws p n).map V.int := by
  unfold cutV seg
  have h1 : HT.sIx (ws.map V.int).length 0 (some (p : Int)) = p := by rw [HT.sIx_nat, List.length_map]; omega
  have h2 : HT.sIx (ws.map V.int).length (ws.map V.int).length (some ((p : Int) + (n : Int))) = p + n := by
    have := HT.sIx_nat (ws.map V.int).length (ws.map V.int).length (p + n)
    rw [show ((p + n : Nat) : Int) = (p : Int) + (n : Int) by omega] at this
    rw [this, List.length_map]
    omega
  rw [h1, h2, List.map_take, List.map_drop, show p + n - p = n by omega]
def sp_slots : Addr → Sp := fun C vs H Q _ => ∃ st dx wl pl room entries least ws kvs n, ∃ (p z : Nat), vs = [.ref st, .int n] ∧ StoreAt H C st dx wl pl room entries least ws kvs ∧ valV kvs (.inl n) = some (.int (p : Int)) ∧ ws[p + 1]? = some (z : Int) ∧ p + 3 + z ≤ ws.length ∧
  ∀ q, H q = none → Q (.ref q) (upd H q (.lst ((seg ws (p + 3) z).map V.int)))
theorem ok_Store_slots (W : WT P K mg base) : FnOk P w K mg base CX0 2 W.f_Store_slots W.fd_Store_slots ["self", "number"] (sp_slots W.c_Store) := by
  refine W.F_Store_slots.ok sc_Store_slots (fun vs H Q E h => ?_) (fun cdv A outer s H vs Q E hr h => ?_)
  · obtain ⟨st, dx, wl, pl, room, entries, least, ws, kvs, n, p, z, rfl, _⟩ := h
    rfl
  · obtain ⟨st, dx, wl, pl, room, entries, least, ws, kvs, n, p, z, rfl, S, hp, hz, hl, k⟩ := h
    have hu1 := hu_of hr
    have hu64 := hu64_of hr
    refine ⟨_, (pss_cons (ps_set (i := 2) sc_Store_slots.nd rfl (by first | exact Or.inl rfl | exact Or.inr rfl) (pe_op op_addU (pe_ix (ix_U hu1) (pe_fld (pv 0) rfl) (pv 1) (fun _ _ => rfl)) (pe_gi rfl W.g_HEADER)))
      (pss_one (ps_ret (pe_slice sl_U (pe_fld (pv 0) rfl) (po_some (pv 2)) (po_some (pe_op op_addU (pv 2) (pe_meth (pv 0) W.C_Store W.m_Store_size (ok_Store_size W) (hr.mono (by decide)) W.b_Store_size .nil pass0 (pa_cons (pv 1) pa_nil)))))))), ?_⟩
    refine ⟨_, rfl, st, _, dx, _, _, rfl, S.st, W.C_Store, W.na_Store__places, rfl, ?_⟩
    refine ⟨_, rfl, Or.inr ⟨_, by rw [← hp]; exact DGet.k (k := Sum.inl n) S.pl, ?_⟩⟩
    refine ⟨_, rfl, st, _, dx, _, _, rfl, S.st, W.C_Store, W.na_Store_words, rfl, ?_⟩
    refine ⟨_, rfl, _, rfl, ?_⟩
    refine ⟨_, rfl, ?_⟩
    refine ⟨_, rfl, st, dx, _, rfl, S.st, rfl, ?_⟩
    refine ⟨_, rfl, ?_⟩
    refine ⟨st, dx, wl, pl, room, entries, least, ws, kvs, n, p, z, rfl, S, hp, hz, ?_⟩
    refine ⟨_, rfl, ?_⟩
    refine Or.inl ⟨wl, _, rfl, SqL.of S.wl, fun q hq => ?_⟩
    have e : cutV (ws.map V.int) (some ((p : Int) + 3)) (some ((p : Int) + 3 + (z : Int))) = (seg ws (p + 3) z).map V.int := cut_seg (p := p + 3) hl
    rw [e]
    exact k q hq
def sp_numbers : Addr → Sp := fun C vs H Q _ => ∃ st dx wl pl room entries least ws kvs, ∃ ns : List Int, vs = [.ref st] ∧ StoreAt H C st dx wl pl room entries least ws kvs ∧ kvs.map (·.1) = ns.map Sum.inl ∧
  ∀ (ns' : List Int) (p : Addr), ns'.Perm ns → ns'.Pairwise (· ≤ ·) → H p = none → Q (.ref p) (upd H p (.lst (ns'.map V.int)))
theorem ok_Store_numbers (W : WT P K mg base) : FnOk P w K mg base CX0 1 W.f_Store_numbers W.fd_Store_numbers ["self"] (sp_numbers W.c_Store) := by
  refine W.F_Store_numbers.ok sc_Store_numbers (fun vs H Q E h => ?_) (fun cdv A outer s H vs Q E hr h => ?_)
  · obtain ⟨st, dx, wl, pl, room, entries, least, ws, kvs, ns, rfl, _⟩ := h
    rfl
  · obtain ⟨st, dx, wl, pl, room, entries, least, ws, kvs, ns, rfl, S, hk, k⟩ := h
    have hu1 := hu_of hr
    have hu64 := hu64_of hr
    refine ⟨_, (pss_one (ps_ret (pe_callB (call_sortedU rfl) (by rfl) W.n_sorted bb_sorted (pa_cons (pe_fld (pv 0) rfl) pa_nil)))), ?_⟩
    refine ⟨_, rfl, st, _, dx, _, _, rfl, S.st, W.C_Store, W.na_Store__places, rfl, ?_⟩
    exact ⟨_, _, rfl, Or.inr ⟨kvs, Rd.of S.pl, hk⟩, k⟩
def sp_drop : Addr → Sp := fun C vs H Q _ => ∃ st dx wl pl room entries least ws kvs n, vs = [.ref st, .int n] ∧ StoreAt H C st dx wl pl room entries least ws kvs ∧ (valV kvs (.inl n)).isSome = true ∧
  ∀ H', StoreAt H' C st dx wl pl room entries (if n < least then n else least) ws (dropK kvs (.inl n)) → (∀ b, b ≠ st → b ≠ pl → H' b = H b) → Q .non H'
theorem ok_Store_drop (W : WT P K mg base) : FnOk P w K mg base CX0 1 W.f_Store_drop W.fd_Store_drop ["self", "number"] (sp_drop W.c_Store) := by
  refine W.F_Store_drop.ok sc_Store_drop (fun vs H Q E h => ?_) (fun cdv A outer s H vs Q E hr h => ?_)
  · obtain ⟨st, dx, wl, pl, room, entries, least, ws, kvs, ns, rfl, _⟩ := h
    rfl
  · obtain ⟨st, dx, wl, pl, room, entries, least, ws, kvs, n, rfl, S, hk, k⟩ := h
    have hu1 := hu_of hr
    have hu64 := hu64_of hr
    have n1 : st ≠ pl := ne_of S.st S.pl (by intro z; cases z)
    have n2 : wl ≠ pl := ne_of S.wl S.pl (by intro z; cases z)
    have n3 : st ≠ wl := ne_of S.st S.wl (by intro z; cases z)
    refine ⟨_, (pss_cons (ps_ddel (pe_fld (pv 0) rfl) (pv 1))
      (pss_one (ps_fld (pv 0) (pe_callB (call_min2 rfl) (by rfl) W.n_min bb_min (pa_cons (pe_fld (pv 0) rfl) (pa_cons (pv 1) pa_nil))) rfl))), ?_⟩
    refine ⟨_, rfl, st, _, dx, _, _, rfl, S.st, W.C_Store, W.na_Store__places, rfl, ?_⟩
    refine ⟨_, rfl, pl, _, .inl n, rfl, S.pl, rfl, hk, ?_⟩
    have h2 : upd H pl (.dK (dropK kvs (.inl n))) st = some (.ins W.c_Store dx (sF room entries wl pl least)) := by rw [upd_ne n1]; exact S.st
    refine ⟨_, rfl, st, _, dx, _, _, rfl, h2, W.C_Store, W.na_Store__least, rfl, ?_⟩
    refine ⟨_, rfl, _, _, rfl, ?_⟩
    refine ⟨_, rfl, st, _, dx, _, rfl, h2, W.C_Store, W.na_Store__least, (by show 5 < 1000; decide), ?_⟩
    refine k _ ⟨upd_same, ?_, ?_⟩ (fun b b1 b2 => ?_)
    · rw [upd_ne n3.symm, upd_ne n2]; exact S.wl
    · rw [upd_ne n1.symm]; exact upd_same
    · rw [upd_ne b1, upd_ne b2]
def sp_init : Addr → Sp := fun C vs H Q _ => ∃ st dx room entries, vs = [.ref st, .int room, .int entries] ∧ H st = some (.ins C dx []) ∧
  ∀ H' wl pl, StoreAt H' C st dx wl pl room entries 0 [] [] → (∀ b o, H b = some o → b ≠ st → H' b = some o) → H wl = none → H pl = none → Q .non H'
theorem ok_Store___init__ (W : WT P K mg base) : FnOk P w K mg base CX0 1 W.f_Store___init__ W.fd_Store___init__ ["self", "room", "entries"] (sp_init W.c_Store) := by
  refine W.F_Store___init__.ok sc_Store___init__ (fun vs H Q E h => ?_) (fun cdv A outer s H vs Q E hr h => ?_)
  · obtain ⟨st, dx, room, entries, rfl, _⟩ := h
    rfl
  · obtain ⟨st, dx, room, entries, rfl, S, k⟩ := h
    have hu1 := hu_of hr
    have hu64 := hu64_of hr
    refine ⟨_, (pss_cons (ps_fld (pv 0) (pv 1) rfl)
      (pss_cons (ps_fld (pv 0) (pv 2) rfl)
      (pss_cons (ps_fld (pv 0) (pe_lst pa_nil) rfl)
      (pss_cons (ps_fld (pv 0) pe_dnewK rfl)
      (pss_one (ps_fld (pv 0) pe_int rfl)))))), ?_⟩
    refine ⟨_, rfl, _, rfl, st, _, dx, _, rfl, S, W.C_Store, W.na_Store_room, (by decide), ?_⟩
    refine ⟨_, rfl, _, rfl, st, _, dx, _, rfl, upd_same, W.C_Store, W.na_Store_entries, (by show 1 < 1000; decide), ?_⟩
    rw [upd_upd]
    generalize e1 : upd H st (.ins W.c_Store dx (putF "entries" (.int entries) (putF "room" (.int room) []))) = H1
    have s1 : H1 st = some (.ins W.c_Store dx [("room", .int room), ("entries", .int entries)]) := by rw [← e1]; exact upd_same
    refine ⟨(by show 0 ≤ sizeLine; decide), fun wl hw => ?_⟩
    have nw : st ≠ wl := ne_of_none s1 hw
    have s2 : upd H1 wl (.lst []) st = some (.ins W.c_Store dx [("room", .int room), ("entries", .int entries)]) := by rw [upd_ne nw]; exact s1
    refine ⟨_, rfl, st, _, dx, _, rfl, s2, W.C_Store, W.na_Store_words, (by show 2 < 1000; decide), ?_⟩
    intro pl hp
    have np : st ≠ pl := ne_of_none upd_same hp
    have npw : wl ≠ pl := fun z => by subst z; rw [upd_ne nw.symm, upd_same] at hp; cases hp
    refine ⟨_, rfl, st, _, dx, _, rfl, (by rw [upd_ne np]; exact upd_same), W.C_Store, W.na_Store__places, (by show 3 < 1000; decide), ?_⟩
    refine ⟨_, rfl, st, _, dx, _, rfl, upd_same, W.C_Store, W.na_Store__least, (by show 4 < 1000; decide), ?_⟩
    rw [upd_upd]
    have hw0 : H wl = none := by rw [← e1, upd_ne nw.symm] at hw; exact hw
    have hp0 : H pl = none := by rw [upd_ne np.symm, upd_ne npw.symm, ← e1, upd_ne np.symm] at hp; exact hp
    refine k _ wl pl ⟨upd_same, ?_, ?_⟩ (fun b o e nb => ?_) hw0 hp0
    · rw [upd_ne nw.symm, upd_ne npw, upd_ne nw.symm]; exact upd_same
    · rw [upd_ne np.symm]; exact upd_same
    · rw [upd_ne nb, upd_ne (ne_of_none e hp0), upd_ne nb, upd_ne (ne_of_none e hw0), ← e1, upd_ne nb]; exact e
end

end LX
namespace LX
open PySem PySem.Spec PyProof.Rows L2 NdefX
section
variable {P : Program} {w : World} {K : PySem.W.Frag} {mg : Str → Option Value} {base : Heap}
def sp_is_ref : Sp := fun vs H Q _ => ∃ n : Int, vs = [.int n] ∧ Q (.bl (decide (n % 2 = 0))) H
theorem ok_is_ref (W : WT P K mg base) : FnOk P w K mg base CX0 1 W.f_is_ref W.fd_is_ref ["word"] sp_is_ref := by
  refine W.F_is_ref.ok sc_is_ref (fun vs H Q E h => ?_) (fun cdv A outer s H vs Q E hr h => ?_)
  · obtain ⟨n, rfl, _⟩ := h
    rfl
  · obtain ⟨n, rfl, k⟩ := h
    have hu1 := hu_of hr
    have hu64 := hu64_of hr
    refine ⟨_, (pss_one (ps_ret (pe_cmpR (op_eqU hu64) (pe_op op_mod (pv 0) pe_int) pe_int (by first | exact nomark _ | rfl)))), ?_⟩
    refine ⟨_, rfl, _, _, rfl, rfl, (by show (0 : Int) < 2; decide), rfl, ?_⟩
    show Q (.bl (decide (V.int (n % 2) = V.int 0))) H
    rw [I_dec]
    exact k
def sp_ref_of : Sp := fun vs H Q _ => ∃ n : Int, vs = [.int n] ∧ n % 2 = 0 ∧ Q (.int (n / 2)) H
theorem ok_ref_of (W : WT P K mg base) : FnOk P w K mg base CX0 2 W.f_ref_of W.fd_ref_of ["word"] sp_ref_of := by
  refine W.F_ref_of.ok sc_ref_of (fun vs H Q E h => ?_) (fun cdv A outer s H vs Q E hr h => ?_)
  · obtain ⟨n, rfl, _⟩ := h
    rfl
  · obtain ⟨n, rfl, hn, k⟩ := h
    have hu1 := hu_of hr
    have hu64 := hu64_of hr
    refine ⟨_, (pss_cons (ps_if (pt_not (pt_truth (pe_call (ok_is_ref W) (hr.mono (by decide)) rfl W.g_is_ref W.F_is_ref.kp W.b_is_ref .nil pass0 (pa_cons (pv 0) pa_nil)) (by intro _; rfl))) (pss_one ps_never) pss_nil)
      (pss_one (ps_ret (pe_op op_fdivW (pv 0) pe_int)))), ?_⟩
    refine ⟨_, rfl, n, rfl, _, rfl, ?_⟩
    refine iteND (fun h => absurd hn h) (fun _ => ?_)
    exact ⟨_, rfl, _, _, rfl, rfl, ⟨by decide, by decide⟩, k⟩
def sp_number : Sp := fun vs H Q _ => ∃ c k : Int, vs = [.int c, .int k] ∧ 0 ≤ k ∧ k ≤ 100000 ∧ ∀ r : Int, 0 ≤ r → Q (.int r) H
theorem ok__law_number (W : WT P K mg base) : FnOk P w K mg base CX0 1 W.f__law_number W.fd__law_number ["_law_cell", "_law_k"] sp_number := by
  refine W.F__law_number.ok sc__law_number (fun vs H Q E h => ?_) (fun cdv A outer s H vs Q E hr h => ?_)
  · obtain ⟨n, m, rfl, _⟩ := h
    rfl
  · obtain ⟨c, m, rfl, hm, hm2, k⟩ := h
    have hu1 := hu_of hr
    have hu64 := hu64_of hr
    refine ⟨_, (pss_cons (ps_if (pt_cmpR op_geU (pv 0) (pe_op op_pow pe_int pe_int) (by first | exact nomark _ | rfl)) (pss_one (ps_ret (pv 0))) pss_nil)
      (pss_cons (ps_set (i := 2) sc__law_number.nd rfl (by first | exact Or.inl rfl | exact Or.inr rfl) (pe_op op_mod (pe_callTy call_intU (by rfl) W.n_int bb_int (pa_cons (pe_op op_addU (pe_op op_addU (pe_op op_mulU (pv 0) pe_int) (pe_op op_mulU (pv 1) pe_int)) pe_int) pa_nil)) pe_int))
      (pss_one (ps_ret (pe_op op_mod (pe_callTy call_intU (by rfl) W.n_int bb_int (pa_cons (pe_op op_addU (pe_op op_mulU (pv 2) (pv 2)) (pe_op op_mulU (pv 1) pe_int)) pa_nil)) pe_int))))), ?_⟩
    refine ⟨_, rfl, _, _, rfl, rfl, ⟨by decide, by decide, by decide⟩, _, rfl, ?_⟩
    refine iteD (fun h => ?_) (fun h => ?_)
    · refine ⟨_, rfl, k _ ?_⟩
      have h : (10 : Int) ^ 18 ≤ c := h
      omega
    · refine ⟨_, rfl, Or.inr ⟨by decide, by decide⟩, ?_⟩
      refine ⟨_, rfl, Or.inr ⟨by decide, by decide⟩, ?_⟩
      refine ⟨_, _, rfl, rfl, (by show (0 : Int) < 2147483647; decide), ?_⟩
      have e1 := Int.emod_nonneg (c * 48271 + m * 69621 + 11) (by decide : (2147483647 : Int) ≠ 0)
      have e2 := Int.emod_lt_of_pos (c * 48271 + m * 69621 + 11) (by decide : (0 : Int) < 2147483647)
      generalize (c * 48271 + m * 69621 + 11) % 2147483647 = d at e1 e2 ⊢
      refine ⟨_, rfl, _, rfl, Or.inl ⟨by omega, by omega⟩, ?_⟩
      refine ⟨_, rfl, Or.inr ⟨by decide, by decide⟩, ?_⟩
      refine ⟨_, _, rfl, rfl, (by show (0 : Int) < 2147483399; decide), ?_⟩
      exact k _ (Int.emod_nonneg _ (by decide))
theorem divc (j : Int) (h0 : 0 < j) (h : j ≤ 100000000) : CDivW 0 j := ⟨h0, by
  have : j.natAbs.log2 ≤ j.natAbs := Nat.log2_le_self _
  have e : j.natAbs ≤ 100000000 := by omega
  have : j.natAbs.log2 < 27 := by
    by_cases z : j.natAbs = 0
    · omega
    · exact (Nat.log2_lt z).mpr (by omega)
  omega⟩
theorem divx {i j : Int} (h : CDivW 0 j) : CDivW i j := h
def sp_is : Sp := fun vs H Q _ => ∃ a b : Int, vs = [.int a, .int b] ∧ Q (.bl (decide (a = b))) H
theorem ok__law_is (W : WT P K mg base) : FnOk P w K mg base CX0 1 W.f__law_is W.fd__law_is ["_law_actual", "_law_due_here"] sp_is := by
  refine W.F__law_is.ok sc__law_is (fun vs H Q E h => ?_) (fun cdv A outer s H vs Q E hr h => ?_)
  · obtain ⟨n, m, rfl, _⟩ := h
    rfl
  · obtain ⟨a, b, rfl, k⟩ := h
    have hu1 := hu_of hr
    have hu64 := hu64_of hr
    refine ⟨_, (pss_one (ps_ret (pe_and (pe_callB call_isi (by rfl) W.n_isinstance bb_isinstance (pa_cons (pv 0) (pa_cons (pe_bt rfl W.n_int bb_int) pa_nil))) (pe_and (pe_notT (pe_callB call_isi (by rfl) W.n_isinstance bb_isinstance (pa_cons (pv 0) (pa_cons (pe_bt rfl W.n_bool bb_bool) pa_nil)))) (pe_one (pe_cmpR (op_eqU hu64) (pv 0) (pv 1) (by first | exact nomark _ | rfl))))))), ?_⟩
    refine ⟨_, rfl, ?_⟩
    refine ⟨_, _, _, _, _, rfl, ClsV.ty _, TyX.base (TyOf.int _), kt_int_int, ?_⟩
    refine ⟨_, rfl, ?_⟩
    refine iteT ?_
    refine ⟨_, rfl, ?_⟩
    refine ⟨_, _, _, _, _, rfl, ClsV.ty _, TyX.base (TyOf.int _), kt_int_bool, ?_⟩
    refine ⟨_, rfl, _, rfl, iteT ?_⟩
    refine ⟨_, rfl, _, rfl, rfl, ?_⟩
    show Q (.bl (decide (V.int a = V.int b))) H
    rw [I_dec]
    exact k
def IsI (H : Hp) (a : Addr) (ns : List Int) : Prop := H a = some (.lst (ns.map V.int))
def sp_same : Sp := fun vs H Q _ => ∃ a b ns, vs = [.ref a, .ref b] ∧ IsI H a ns ∧ IsI H b ns ∧ ns.length ≤ 100000 ∧ Q (.bl true) H
theorem ok__law_same (W : WT P K mg base) : FnOk P w K mg base CX0 2 W.f__law_same W.fd__law_same ["_law_actual", "_law_due_here"] sp_same := by
  refine W.F__law_same.ok sc__law_same (fun vs H Q E h => ?_) (fun cdv A outer s H vs Q E hr h => ?_)
  · obtain ⟨n, m, ns, rfl, _⟩ := h
    rfl
  · obtain ⟨a, b, ns, rfl, ha, hb, hl, k⟩ := h
    have hu1 := hu_of hr
    have hu64 := hu64_of hr
    refine ⟨_, (pss_cons (ps_if (PW.pt (pw_or (pt_not (pt_truth (pe_callB call_isi (by rfl) W.n_isinstance bb_isinstance (pa_cons (pv 0) (pa_cons (pe_bt rfl W.n_list bb_list) pa_nil))) (by intro _; rfl))) (pw_or1 (pt_cmpR (op_neU hu64) (pe_callB call_lenU (by rfl) W.n_len bb_len (pa_cons (pv 0) pa_nil)) (pe_callB call_lenU (by rfl) W.n_len bb_len (pa_cons (pv 1) pa_nil)) (by first | exact nomark _ | rfl))))) (pss_one (ps_ret pe_bl)) pss_nil)
      (pss_cons (ps_for PassesOwn.never rfl (pi_range1 (by rfl) W.n_range (pa_cons (pe_callB call_lenU (by rfl) W.n_len bb_len (pa_cons (pv 1) pa_nil)) pa_nil)) (pg_name (i := 2) sc__law_same.nd rfl (by first | exact Or.inl rfl | exact Or.inr rfl)) (pss_one (ps_if (pt_not (pt_truth (pe_call (ok__law_is W) (hr.mono (by decide)) rfl W.g__law_is W.F__law_is.kp W.b__law_is .nil pass0 (pa_cons (pe_ix (ix_U hu1) (pv 0) (pv 2) (fun _ _ => rfl)) (pa_cons (pe_ix (ix_U hu1) (pv 1) (pv 2) (fun _ _ => rfl)) pa_nil))) (by intro _; rfl))) (pss_one (ps_ret pe_bl)) pss_nil)))
      (pss_one (ps_ret pe_bl)))), ?_⟩
    refine ⟨_, rfl, ?_⟩
    refine ⟨_, _, _, _, _, rfl, ClsV.ty _, TyX.base (TyOf.lst ha), kt_list_list, ?_⟩
    refine ⟨_, rfl, iteF ?_⟩
    refine ⟨_, rfl, Or.inl ⟨_, Or.inl (SqL.of ha), ?_⟩⟩
    refine ⟨_, rfl, Or.inl ⟨_, Or.inl (SqL.of hb), ?_⟩⟩
    refine ⟨rfl, _, rfl, ?_⟩
    refine iteND (fun h => absurd rfl h) (fun _ => ?_)
    refine ⟨_, rfl, Or.inl ⟨_, Or.inl (SqL.of hb), ?_⟩⟩
    rw [List.length_map]
    refine ⟨_, rfl, by omega, by omega, for_range (lo := 0) (n := ns.length) (fun _ σ H' => (∃ v, σ = [some (.ref a), some (.ref b), v]) ∧ H' = H) ⟨⟨_, rfl⟩, rfl⟩ (fun i σ H' hi hI => ?_) (fun σ H' hI => ?_)⟩
    · obtain ⟨⟨v, rfl⟩, rfl⟩ := hI
      have hx := int_at (List.getElem?_eq_getElem hi)
      refine ⟨_, rfl, _, rfl, Or.inl ⟨_, _, _, rfl, Or.inl (SqL.of ha), by rw [Int.zero_add]; exact atI_nat hx, ?_⟩⟩
      refine ⟨_, rfl, _, rfl, Or.inl ⟨_, _, _, rfl, Or.inl (SqL.of hb), by rw [Int.zero_add]; exact atI_nat hx, ?_⟩⟩
      refine ⟨_, _, rfl, ?_⟩
      refine ⟨_, rfl, ?_⟩
      refine iteND (fun h => absurd rfl h) (fun _ => ?_)
      exact ⟨⟨_, rfl⟩, rfl⟩
    · obtain ⟨_, rfl⟩ := hI
      exact k
end

end LX
namespace LX
open PySem PySem.Spec PyProof.Rows L2 NdefX
section
variable {P : Program} {w : World} {K : PySem.W.Frag} {mg : Str → Option Value} {base : Heap}
theorem pig {α : Type} [DecidableEq α] (f : Nat → α) (hf : ∀ i j, f i = f j → i = j) : ∀ (m : Nat) (l : List α), (∀ n, n < m → f n ∈ l) → m ≤ l.length
  | 0, _, _ => Nat.zero_le _
  | m + 1, l, h => by
    have hm := h m (Nat.lt_succ_self m)
    have := pig f hf m (l.erase (f m)) fun n hn => (List.mem_erase_of_ne (fun e => by have := hf _ _ e; omega)).mpr (h n (by omega))
    have hl := List.length_erase_of_mem hm
    have : 0 < l.length := List.length_pos_of_mem hm
    omega
theorem val_mem {κ : Type} [DecidableEq κ] {kvs : List (κ × V)} {k : κ} {v : V} (h : valV kvs k = some v) : (k, v) ∈ kvs := by
  unfold valV at h
  obtain ⟨p, hp, e⟩ := Option.map_eq_some_iff.mp h
  have h1 := List.find?_some hp
  have h2 := List.mem_of_find?_eq_some hp
  have h1 : p.1 = k := of_decide_eq_true h1
  obtain ⟨a, b⟩ := p
  subst h1 e
  exact h2
def Seen (kvs : List (Key × V)) (m : Int) : Prop := 0 ≤ m ∧ ∀ n : Int, 0 ≤ n → n < m → (valV kvs (.inl n)).isSome = true
theorem Seen.le {kvs : List (Key × V)} {m : Int} (h : Seen kvs m) : m ≤ kvs.length := by
  have := pig (α := Key) (fun n => .inl (n : Int)) (fun i j e => by have := Sum.inl.inj e; omega) m.toNat (kvs.map (·.1)) fun n hn => by
    have z := h.2 n (by omega) (by have := h.1; omega)
    obtain ⟨v, hv⟩ := Option.isSome_iff_exists.mp z
    exact List.mem_map.mpr ⟨_, val_mem hv, rfl⟩
  rw [List.length_map] at this
  have := h.1
  omega
def sp_free : Addr → Sp := fun C vs H Q _ => ∃ st dx wl pl room entries least ws kvs, vs = [.ref st] ∧ StoreAt H C st dx wl pl room entries least ws kvs ∧ Seen kvs least ∧ (kvs.length : Int) < entries ∧
  ∀ m H', StoreAt H' C st dx wl pl room entries m ws kvs → (∀ b, b ≠ st → H' b = H b) → Seen kvs m → valV kvs (.inl m) = none → Q (.int m) H'
theorem ok_Store_free_number (W : WT P K mg base) : FnOk P w K mg base CX0 1 W.f_Store_free_number W.fd_Store_free_number ["self"] (sp_free W.c_Store) := by
  refine W.F_Store_free_number.ok sc_Store_free_number (fun vs H Q E h => ?_) (fun cdv A outer s H vs Q E hr h => ?_)
  · obtain ⟨st, dx, wl, pl, room, entries, least, ws, kvs, rfl, _⟩ := h
    rfl
  · obtain ⟨st, dx, wl, pl, room, entries, least, ws, kvs, rfl, S, hs, hl, k⟩ := h
    have hu1 := hu_of hr
    have hu64 := hu64_of hr
    refine ⟨_, (pss_cons (ps_while PassesOwn.never (pt_cmpR (op_inU hu1) (pe_fld (pv 0) rfl) (pe_fld (pv 0) rfl) (by first | exact nomark _ | rfl)) (pss_one (ps_fld (pv 0) (pe_op op_addU (pe_fld (pv 0) rfl) pe_int) rfl)))
      (pss_cons (ps_if (pt_cmpR op_geU (pe_fld (pv 0) rfl) (pe_fld (pv 0) rfl) (by first | exact nomark _ | rfl)) (pss_one ps_never) pss_nil)
      (pss_one (ps_ret (pe_fld (pv 0) rfl))))), ?_⟩
    refine ⟨fun n σ H' => ∃ m : Int, σ = [some (.ref st)] ∧ StoreAt H' W.c_Store st dx wl pl room entries m ws kvs ∧ (∀ b, b ≠ st → H' b = H b) ∧ Seen kvs m ∧ n = kvs.length - m.toNat, ⟨_, least, rfl, S, fun _ _ => rfl, hs, rfl⟩, ?_⟩
    rintro n σ H' ⟨m, rfl, S1, fr, hs1, rfl⟩
    refine ⟨_, rfl, st, _, dx, _, _, rfl, S1.st, W.C_Store, W.na_Store__least, rfl, ?_⟩
    refine ⟨_, rfl, st, _, dx, _, _, rfl, S1.st, W.C_Store, W.na_Store__places, rfl, ?_⟩
    refine Or.inr ⟨_, DGet.k (k := Sum.inl m) S1.pl, ?_⟩
    refine ⟨_, rfl, ?_⟩
    cases e : valV kvs (.inl m) with
    | some v =>
      refine iteT ?_
      refine ⟨_, fun _ _ z => z, ?_⟩
      refine ⟨_, rfl, st, _, dx, _, _, rfl, S1.st, W.C_Store, W.na_Store__least, rfl, ?_⟩
      refine ⟨_, rfl, st, _, dx, _, rfl, S1.st, W.C_Store, W.na_Store__least, (by show 5 < 1000; decide), ?_⟩
      have n1 : st ≠ pl := ne_of S1.st S1.pl (by intro z; cases z)
      have n3 : st ≠ wl := ne_of S1.st S1.wl (by intro z; cases z)
      have hs2 : Seen kvs (m + 1) := ⟨by have := hs1.1; omega, fun n h0 h1 => by
        by_cases q : n = m
        · subst q; rw [e]; rfl
        · exact hs1.2 n h0 (by omega)⟩
      have l2 := hs2.le
      have l1 := hs1.1
      refine ⟨kvs.length - (m + 1).toNat, by omega, m + 1, rfl, ⟨upd_same, ?_, ?_⟩, fun b hb => ?_, hs2, rfl⟩
      · rw [upd_ne n3.symm]; exact S1.wl
      · rw [upd_ne n1.symm]; exact S1.pl
      · rw [upd_ne hb]; exact fr b hb
    | none =>
      refine iteF ?_
      refine ⟨_, rfl, st, _, dx, _, _, rfl, S1.st, W.C_Store, W.na_Store__least, rfl, ?_⟩
      refine ⟨_, rfl, st, _, dx, _, _, rfl, S1.st, W.C_Store, W.na_Store_entries, rfl, ?_⟩
      refine ⟨_, rfl, ?_⟩
      refine iteD (fun h => ?_) (fun h => ?_)
      · have h : entries ≤ m := h
        have := hs1.le
        omega
      · refine ⟨_, rfl, st, _, dx, _, _, rfl, S1.st, W.C_Store, W.na_Store__least, rfl, ?_⟩
        exact k m H' S1 fr hs1 e
def sp_alloc : Addr → Sp := fun C vs H Q _ => ∃ st dx wl pl room entries least ws kvs, ∃ (x : Int) (z : Nat), vs = [.ref st, .int x, .int (z : Int)] ∧ StoreAt H C st dx wl pl room entries least ws kvs ∧ Seen kvs least ∧ (kvs.length : Int) < entries ∧ entries ≤ 100000 ∧ (ws.length : Int) + 3 + z ≤ room ∧ room ≤ 100000 ∧
  ∀ m H', StoreAt H' C st dx wl pl room entries m (ws ++ (m :: (z : Int) :: x :: List.replicate z 0)) (putK kvs (.inl m) (.int (ws.length : Int))) → Fr [st, wl, pl] H H' → Seen kvs m → valV kvs (.inl m) = none → Q (.int m) H'
theorem rep_int (z : Nat) (x : Int) : (List.replicate z [V.int x]).flatten = (List.replicate z x).map V.int := by
  induction z with
  | zero => rfl
  | succ n ih => rw [List.replicate_succ, List.flatten_cons, ih, List.replicate_succ, List.map_cons] <;> rfl
theorem ok_Store_allocate (W : WT P K mg base) : FnOk P w K mg base CX0 2 W.f_Store_allocate W.fd_Store_allocate ["self", "kind", "size"] (sp_alloc W.c_Store) := by
  refine W.F_Store_allocate.ok sc_Store_allocate (fun vs H Q E h => ?_) (fun cdv A outer s H vs Q E hr h => ?_)
  · obtain ⟨st, dx, wl, pl, room, entries, least, ws, kvs, x, z, rfl, _⟩ := h
    rfl
  · obtain ⟨st, dx, wl, pl, room, entries, least, ws, kvs, x, z, rfl, S, hs, hl, he, hz, hr2, k⟩ := h
    have hu1 := hu_of hr
    have hu64 := hu64_of hr
    refine ⟨_, (pss_cons (ps_if (pt_cmpR op_gtU (pe_op op_addU (pe_op op_addU (pe_callB call_lenU (by rfl) W.n_len bb_len (pa_cons (pe_fld (pv 0) rfl) pa_nil)) (pe_gi rfl W.g_HEADER)) (pv 2)) (pe_fld (pv 0) rfl) (by first | exact nomark _ | rfl)) (pss_one ps_never) pss_nil)
      (pss_cons (ps_set (i := 3) sc_Store_allocate.nd rfl (by first | exact Or.inl rfl | exact Or.inr rfl) (pe_meth0 (pv 0) W.C_Store W.m_Store_free_number (ok_Store_free_number W) (hr.mono (by decide)) W.b_Store_free_number .nil pass0 ))
      (pss_cons (ps_dput hu1 (pe_fld (pv 0) rfl) (pv 3) (pe_callB call_lenU (by rfl) W.n_len bb_len (pa_cons (pe_fld (pv 0) rfl) pa_nil)) rfl)
      (pss_cons (ps_expr (pe_bm PySem.F.plainAttrs_list PySem.F.slot_list_extend PySem.F.type_list_extend mt_extend (pe_fld (pv 0) rfl) (pa_cons (pe_lst (pa_cons (pv 3) (pa_cons (pv 2) (pa_cons (pv 1) pa_nil)))) pa_nil)))
      (pss_cons (ps_expr (pe_bm PySem.F.plainAttrs_list PySem.F.slot_list_extend PySem.F.type_list_extend mt_extend (pe_fld (pv 0) rfl) (pa_cons (pe_op op_mulU (pe_lst (pa_cons (pe_gi rfl W.g_NIL) pa_nil)) (pv 2)) pa_nil)))
      (pss_one (ps_ret (pv 3)))))))), ?_⟩
    refine ⟨_, rfl, st, _, dx, _, _, rfl, S.st, W.C_Store, W.na_Store_words, rfl, ?_⟩
    refine Or.inl ⟨_, Or.inl (SqL.of S.wl), ?_⟩
    rw [List.length_map]
    refine ⟨_, rfl, ?_⟩
    refine ⟨_, rfl, st, _, dx, _, _, rfl, S.st, W.C_Store, W.na_Store_room, rfl, ?_⟩
    refine ⟨_, rfl, ?_⟩
    refine iteD (fun h => ?_) (fun h => ?_)
    · have h : room < (ws.length : Int) + 3 + z := h
      omega
    · refine ⟨_, rfl, st, dx, _, rfl, S.st, rfl, ?_⟩
      refine ⟨st, dx, wl, pl, room, entries, least, ws, kvs, rfl, S, hs, hl, fun m H1 S1 fr hs1 hm => ?_⟩
      have n1 : st ≠ pl := ne_of S1.st S1.pl (by intro z; cases z)
      have n2 : wl ≠ pl := ne_of S1.wl S1.pl (by intro z; cases z)
      have n3 : st ≠ wl := ne_of S1.st S1.wl (by intro z; cases z)
      refine ⟨_, rfl, st, _, dx, _, _, rfl, S1.st, W.C_Store, W.na_Store_words, rfl, ?_⟩
      refine Or.inl ⟨_, Or.inl (SqL.of S1.wl), ?_⟩
      rw [List.length_map]
      refine ⟨_, rfl, st, _, dx, _, _, rfl, S1.st, W.C_Store, W.na_Store__places, rfl, ?_⟩
      refine ⟨_, rfl, pl, _, rfl, DPut.k (k := Sum.inl m) S1.pl (by rw [sizeLine_eq]; omega), ?_⟩
      generalize e2 : upd H1 pl (.dK (putK kvs (Sum.inl m) (.int (ws.length : Int)))) = H2
      have s2 : H2 st = some (.ins W.c_Store dx (sF room entries wl pl m)) := by rw [← e2, upd_ne n1]; exact S1.st
      have w2 : H2 wl = some (.lst (ws.map V.int)) := by rw [← e2, upd_ne n2]; exact S1.wl
      have p2 : H2 pl = some (.dK (putK kvs (Sum.inl m) (.int (ws.length : Int)))) := by rw [← e2]; exact upd_same
      have f2 : Fr [st, wl, pl] H H2 := by
        refine Fr.trans (H1 := H1) (fun b o e n => ?_) (by rw [← e2]; exact Fr.at (by simp))
        rw [fr b (fun z => n (by simp [z]))]; exact e
      refine ⟨_, rfl, st, _, dx, _, _, rfl, s2, W.C_Store, W.na_Store_words, rfl, Or.inl ⟨rfl, _, SqL.of w2⟩, ?_⟩
      refine ⟨_, rfl, _, rfl, _, rfl, (by show 3 ≤ sizeLine; decide), fun q hq => ?_⟩
      have nq : wl ≠ q := ne_of_none w2 hq
      refine ⟨wl, q, _, _, rfl, rfl, (by rw [upd_ne nq]; exact w2), upd_same, (by rw [List.length_map, sizeLine_eq]; show ws.length + 3 ≤ _; omega), ?_⟩
      have ew : ws.map V.int ++ [V.int m, .int (z : Int), .int x] = (ws ++ [m, (z : Int), x]).map V.int := by rw [List.map_append]; rfl
      rw [ew]
      generalize e3 : upd (upd H2 q (.lst [V.int m, .int (z : Int), .int x])) wl (.lst ((ws ++ [m, (z : Int), x]).map V.int)) = H3
      have s3 : H3 st = some (.ins W.c_Store dx (sF room entries wl pl m)) := by rw [← e3, upd_ne n3, upd_ne (ne_of_none s2 hq)]; exact s2
      have w3 : H3 wl = some (.lst ((ws ++ [m, (z : Int), x]).map V.int)) := by rw [← e3]; exact upd_same
      have p3 : H3 pl = some (.dK (putK kvs (Sum.inl m) (.int (ws.length : Int)))) := by rw [← e3, upd_ne n2.symm, upd_ne (ne_of_none p2 hq)]; exact p2
      have f3 : Fr [st, wl, pl] H H3 := by
        rw [← e3]
        exact (f2.trans (Fr.new hq)).trans (Fr.at (by simp))
      refine ⟨_, rfl, st, _, dx, _, _, rfl, s3, W.C_Store, W.na_Store_words, rfl, Or.inl ⟨rfl, _, SqL.of w3⟩, ?_⟩
      refine ⟨(by show 1 ≤ sizeLine; decide), fun q1 hq1 => ?_⟩
      refine ⟨_, rfl, ?_⟩
      refine ⟨q1, (z : Int), _, rfl, rfl, upd_same, by omega, by omega, (by show 1 * ((z : Int)).toNat ≤ _; rw [sizeLine_eq]; omega), fun q2 hq2 => ?_⟩
      rw [Int.toNat_natCast, rep_int]
      have f4 := (f3.trans (Fr.new (o := .lst [V.int 0]) hq1)).trans (Fr.new (o := .lst ((List.replicate z (0 : Int)).map V.int)) hq2)
      generalize e5 : upd (upd H3 q1 (.lst [V.int 0])) q2 (.lst ((List.replicate z (0 : Int)).map V.int)) = H5
      have g5 : ∀ b o, H3 b = some o → H5 b = some o := fun b o e => by
        have h1 : upd H3 q1 (.lst [V.int 0]) b = some o := by rw [upd_ne (ne_of_none e hq1)]; exact e
        rw [← e5, upd_ne (ne_of_none h1 hq2)]; exact h1
      rw [e5] at f4
      refine ⟨wl, q2, _, _, rfl, rfl, g5 _ _ w3, (by rw [← e5]; exact upd_same), (by simp only [List.length_map, List.length_append, List.length_replicate]; rw [sizeLine_eq]; show ws.length + 3 + z ≤ _; omega), ?_⟩
      have ew2 : (ws ++ [m, (z : Int), x]).map V.int ++ (List.replicate z (0 : Int)).map V.int = (ws ++ (m :: (z : Int) :: x :: List.replicate z 0)).map V.int := by rw [← List.map_append, List.append_assoc]; rfl
      rw [ew2]
      refine ⟨_, rfl, ?_⟩
      refine k m _ ⟨?_, upd_same, ?_⟩ (f4.trans (Fr.at (by simp))) hs1 hm
      · rw [upd_ne n3]; exact g5 _ _ s3
      · rw [upd_ne n2.symm]; exact g5 _ _ p3
end

end LX
namespace LX
open PySem PySem.Spec PyProof.Rows L2 NdefX
/-! ### the row of objects, plainly -/
structure Ob where
  num : Int
  kind : Int
  sl : List Int
  live : Bool
def fl (o : Ob) : List Int := o.num :: (o.sl.length : Int) :: o.kind :: o.sl
def flat (O : List Ob) : List Int := O.flatMap fl
def off (O : List Ob) (i : Nat) : Nat := (flat (O.take i)).length
theorem flat_app (A B : List Ob) : flat (A ++ B) = flat A ++ flat B := List.flatMap_append
theorem flat_cons (o : Ob) (B : List Ob) : flat (o :: B) = fl o ++ flat B := List.flatMap_cons
theorem fl_len (o : Ob) : (fl o).length = 3 + o.sl.length := by unfold fl; simp; omega
theorem split_at {α : Type} {l : List α} {i : Nat} {x : α} (h : l[i]? = some x) : l = l.take i ++ x :: l.drop (i + 1) := by
  obtain ⟨hi, e⟩ := List.getElem?_eq_some_iff.mp h
  subst e
  rw [List.getElem_cons_drop, List.take_append_drop]
theorem flat_split {O : List Ob} {i : Nat} {o : Ob} (h : O[i]? = some o) : flat O = flat (O.take i) ++ (fl o ++ flat (O.drop (i + 1))) := by
  rw [← flat_cons, ← flat_app, ← split_at h]
theorem flat_set {O : List Ob} {i : Nat} {o o' : Ob} (h : O[i]? = some o) : flat (O.set i o') = flat (O.take i) ++ (fl o' ++ flat (O.drop (i + 1))) := by
  have hi := (List.getElem?_eq_some_iff.mp h).1
  rw [List.set_eq_take_append_cons_drop, if_pos hi, flat_app, flat_cons]
theorem off_lt {O : List Ob} {i : Nat} {o : Ob} (h : O[i]? = some o) : off O i + 3 + o.sl.length ≤ (flat O).length := by
  have := congrArg List.length (flat_split h)
  rw [List.length_append, List.length_append, fl_len] at this
  unfold off
  omega
theorem at_split {α : Type} {A B l : List α} {k : Nat} (hk : k < l.length) : (A ++ (l ++ B))[A.length + k]? = l[k]? := by
  rw [List.getElem?_append_right (by omega), Nat.add_sub_cancel_left, List.getElem?_append_left hk]
theorem flat_at {O : List Ob} {i k : Nat} {o : Ob} (h : O[i]? = some o) (hk : k < (fl o).length) : (flat O)[off O i + k]? = (fl o)[k]? := by
  have e := flat_split h
  have := at_split (A := flat (O.take i)) (B := flat (O.drop (i + 1))) hk
  rw [← e] at this
  exact this
theorem flat_num {O : List Ob} {i : Nat} {o : Ob} (h : O[i]? = some o) : (flat O)[off O i]? = some o.num := flat_at (k := 0) h (by rw [fl_len]; omega)
theorem flat_size {O : List Ob} {i : Nat} {o : Ob} (h : O[i]? = some o) : (flat O)[off O i + 1]? = some (o.sl.length : Int) := flat_at (k := 1) h (by rw [fl_len]; omega)
theorem flat_kind {O : List Ob} {i : Nat} {o : Ob} (h : O[i]? = some o) : (flat O)[off O i + 2]? = some o.kind := flat_at (k := 2) h (by rw [fl_len]; omega)
theorem flat_slots {O : List Ob} {i : Nat} {o : Ob} (h : O[i]? = some o) : seg (flat O) (off O i + 3) o.sl.length = o.sl := by
  unfold seg
  rw [flat_split h, ← List.drop_drop]
  unfold off
  rw [List.drop_left]
  show ((o.sl ++ flat (O.drop (i + 1))).take _) = _
  rw [List.take_left]
theorem set_split {α : Type} {A B l : List α} {k : Nat} {x : α} (hk : k < l.length) : (A ++ (l ++ B)).set (A.length + k) x = A ++ (l.set k x ++ B) := by
  rw [List.set_append_right _ _ (by omega), Nat.add_sub_cancel_left, List.set_append_left _ _ hk]
theorem set_flat {O : List Ob} {i k : Nat} {o o' : Ob} {x : Int} (h : O[i]? = some o) (hk : k < (fl o).length) (e : (fl o).set k x = fl o') : (flat O).set (off O i + k) x = flat (O.set i o') := by
  rw [flat_set h, ← e]
  have := set_split (A := flat (O.take i)) (B := flat (O.drop (i + 1))) (x := x) hk
  rw [← flat_split h] at this
  exact this
theorem set_num {O : List Ob} {i : Nat} {o : Ob} (x : Int) (h : O[i]? = some o) : (flat O).set (off O i) x = flat (O.set i { o with num := x }) := set_flat (k := 0) h (by rw [fl_len]; omega) rfl
theorem set_kind {O : List Ob} {i : Nat} {o : Ob} (x : Int) (h : O[i]? = some o) : (flat O).set (off O i + 2) x = flat (O.set i { o with kind := x }) := set_flat (k := 2) h (by rw [fl_len]; omega) rfl
theorem set_slot {O : List Ob} {i a : Nat} {o : Ob} (x : Int) (h : O[i]? = some o) (ha : a < o.sl.length) : (flat O).set (off O i + 3 + a) x = flat (O.set i { o with sl := o.sl.set a x }) := by
  have := set_flat (k := 3 + a) (o' := { o with sl := o.sl.set a x }) (x := x) h (by rw [fl_len]; omega) (by
    unfold fl
    rw [show 3 + a = a + 1 + 1 + 1 by omega]
    simp)
  rw [← this, Nat.add_assoc]
theorem flat_kill {O : List Ob} {i : Nat} {o : Ob} (h : O[i]? = some o) (b : Bool) : flat (O.set i { o with live := b }) = flat O := by
  rw [flat_set h, flat_split h]; rfl
theorem off_set {O : List Ob} {i j : Nat} {o o' : Ob} (h : O[i]? = some o) (hl : o'.sl.length = o.sl.length) : off (O.set i o') j = off O j := by
  unfold off
  rw [List.take_set]
  by_cases hij : i < j
  · have h' : (O.take j)[i]? = some o := by rw [List.getElem?_take, if_pos hij]; exact h
    rw [flat_set h', flat_split h', List.length_append, List.length_append, List.length_append, List.length_append, fl_len, fl_len, hl]
  · rw [List.set_eq_of_length_le (by rw [List.length_take]; omega)]
theorem off_app {O B : List Ob} {i : Nat} (h : i ≤ O.length) : off (O ++ B) i = off O i := by
  unfold off
  rw [List.take_append_of_le_length h]
theorem off_end {O : List Ob} : off O O.length = (flat O).length := by unfold off; rw [List.take_length]
/-! ### tables -/
section
variable {κ : Type} [DecidableEq κ]
theorem valV_drop (k j : κ) : ∀ kvs : List (κ × V), valV (dropK kvs k) j = if j = k then none else valV kvs j
  | [] => by simp [dropK, valV]
  | p :: r => by
    have ih := valV_drop k j r
    unfold dropK at ih ⊢
    by_cases e : p.1 = k
    · rw [List.filter_cons_of_neg (by simp [e]), ih]
      by_cases hj : j = k
      · rw [if_pos hj, if_pos hj]
      · rw [if_neg hj, if_neg hj, valV_neg (fun z => hj (z.symm.trans e))]
    · rw [List.filter_cons_of_pos (by simp [e])]
      by_cases hp : p.1 = j
      · rw [valV_pos hp, valV_pos hp, if_neg (fun z => e (hp.trans z))]
      · rw [valV_neg hp, valV_neg hp, ih]
theorem nd_drop {kvs : List (κ × V)} {k : κ} (h : (kvs.map (·.1)).Nodup) : ((dropK kvs k).map (·.1)).Nodup := h.sublist (List.Sublist.map _ List.filter_sublist)
theorem mem_val {kvs : List (κ × V)} {k : κ} (h : k ∈ kvs.map (·.1)) : ∃ v, valV kvs k = some v := by
  obtain ⟨p, hp, e⟩ := List.mem_map.mp h
  have : (valV kvs k).isSome = true := by
    rw [← valV_any]
    exact List.any_eq_true.mpr ⟨p, hp, decide_eq_true e⟩
  exact Option.isSome_iff_exists.mp this
theorem nd_put {kvs : List (κ × V)} {k : κ} {v : V} (h : (kvs.map (·.1)).Nodup) : ((putK kvs k v).map (·.1)).Nodup := by
  unfold putK
  split
  · have e : ∀ l : List (κ × V), (l.map (fun kv => if kv.1 = k then (kv.1, v) else kv)).map (·.1) = l.map (·.1) := by
      intro l
      rw [List.map_map]
      apply List.map_congr_left
      intro a _
      show (if a.1 = k then (a.1, v) else a).1 = a.1
      split <;> rfl
    rw [e]; exact h
  · rename_i hn
    rw [List.map_append]
    refine List.nodup_append.mpr ⟨h, by simp, fun a ha b hb e => ?_⟩
    subst e
    have hb : a = k := by simpa using hb
    subst hb
    obtain ⟨v, hv⟩ := mem_val ha
    rw [valV_any, hv] at hn
    exact hn rfl
end
/-- the table and the words tell the row -/
structure Good (O : List Ob) (kvs : List (Key × V)) (least : Int) : Prop where
  val : ∀ k v, valV kvs k = some v ↔ ∃ i o, O[i]? = some o ∧ o.live = true ∧ k = .inl o.num ∧ v = .int (off O i : Nat)
  nd : (kvs.map (·.1)).Nodup
  un : ∀ (i j : Nat) (o o' : Ob), O[i]? = some o → O[j]? = some o' → o.live = true → o'.live = true → o.num = o'.num → i = j
  seen : Seen kvs least
theorem Good.at {O : List Ob} {kvs : List (Key × V)} {least : Int} (G : Good O kvs least) {i : Nat} {o : Ob} (h : O[i]? = some o) (hl : o.live = true) : valV kvs (.inl o.num) = some (.int (off O i : Nat)) := (G.val _ _).mpr ⟨i, o, h, hl, rfl, rfl⟩
theorem Good.ints {O : List Ob} {kvs : List (Key × V)} {least : Int} (G : Good O kvs least) : ∃ ns : List Int, kvs.map (·.1) = ns.map Sum.inl ∧ ns.Perm ((O.filter (·.live)).map (·.num)) := by
  have hk : ∀ k ∈ kvs.map (·.1), ∃ n, k = Sum.inl n := fun k hk => by
    obtain ⟨v, hv⟩ := mem_val hk
    obtain ⟨i, o, _, _, e, _⟩ := (G.val _ _).mp hv
    exact ⟨_, e⟩
  obtain ⟨ns, hns⟩ : ∃ ns : List Int, kvs.map (·.1) = ns.map Sum.inl := by
    generalize kvs.map (·.1) = l at hk
    induction l with
    | nil => exact ⟨[], rfl⟩
    | cons a r ih =>
      obtain ⟨n, e⟩ := hk a List.mem_cons_self
      obtain ⟨m, em⟩ := ih fun k h => hk k (List.mem_cons_of_mem _ h)
      exact ⟨n :: m, by rw [e, em]; rfl⟩
  refine ⟨ns, hns, ?_⟩
  have nd1 : ns.Nodup := by
    have := G.nd
    rw [hns] at this
    exact (List.pairwise_map.mp this).imp fun h e => h (by rw [e])
  have nd2 : ((O.filter (·.live)).map (·.num)).Nodup := by
    have key : ∀ (l : List Ob), (∀ (i j : Nat) (o o' : Ob), l[i]? = some o → l[j]? = some o' → o.live = true → o'.live = true → o.num = o'.num → i = j) → ((l.filter (·.live)).map (·.num)).Nodup := by
      intro l
      induction l with
      | nil => intro _; exact List.nodup_nil
      | cons a r ih =>
        intro h
        have ihr := ih fun i j o o' h1 h2 l1 l2 e => by
          have := h (i + 1) (j + 1) o o' h1 h2 l1 l2 e
          omega
        by_cases ha : a.live = true
        · rw [List.filter_cons_of_pos (by exact ha), List.map_cons]
          refine List.nodup_cons.mpr ⟨fun hm => ?_, ihr⟩
          obtain ⟨o, ho, e⟩ := List.mem_map.mp hm
          obtain ⟨h1, h2⟩ := List.mem_filter.mp ho
          obtain ⟨j, hj⟩ := List.getElem?_of_mem h1
          have := h 0 (j + 1) a o rfl hj ha h2 e.symm
          omega
        · rw [List.filter_cons_of_neg (by exact ha)]
          exact ihr
    exact key O G.un
  refine (List.perm_ext_iff_of_nodup nd1 nd2).mpr fun n => ?_
  have h1 : n ∈ ns ↔ (Sum.inl n : Key) ∈ kvs.map (·.1) := by
    rw [hns]
    constructor
    · exact fun h => List.mem_map.mpr ⟨n, h, rfl⟩
    · intro h
      obtain ⟨m, hm, e⟩ := List.mem_map.mp h
      cases e
      exact hm
  rw [h1]
  constructor
  · intro h
    obtain ⟨v, hv⟩ := mem_val h
    obtain ⟨i, o, q1, q2, q3, _⟩ := (G.val _ _).mp hv
    cases q3
    exact List.mem_map.mpr ⟨o, List.mem_filter.mpr ⟨List.mem_of_getElem? q1, q2⟩, rfl⟩
  · intro h
    obtain ⟨o, ho, e⟩ := List.mem_map.mp h
    obtain ⟨h1, h2⟩ := List.mem_filter.mp ho
    obtain ⟨i, hi⟩ := List.getElem?_of_mem h1
    have := val_mem (G.at hi h2)
    rw [e] at this
    exact List.mem_map.mpr ⟨_, this, rfl⟩
theorem set_get {O : List Ob} {i j : Nat} {o o' : Ob} (h : O[i]? = some o) : (O.set i o')[j]? = if j = i then some o' else O[j]? := by
  have hi := (List.getElem?_eq_some_iff.mp h).1
  rw [List.getElem?_set]
  by_cases e : i = j
  · subst e; simp [hi]
  · rw [if_neg e, if_neg (Ne.symm e)]
/-- the contents of an object change -/
theorem Good.same {O : List Ob} {kvs : List (Key × V)} {least : Int} (G : Good O kvs least) {i : Nat} {o o' : Ob} (h : O[i]? = some o) (hn : o'.num = o.num) (hv : o'.live = o.live) (hl : o'.sl.length = o.sl.length) : Good (O.set i o') kvs least := by
  refine ⟨fun k v => ?_, G.nd, fun a b x y ha hb la lb e => ?_, G.seen⟩
  · rw [G.val k v]
    constructor
    · rintro ⟨j, x, hj, lx, rfl, rfl⟩
      by_cases e : j = i
      · subst e
        rw [h] at hj; cases hj
        exact ⟨j, o', by rw [set_get h, if_pos rfl], by rw [hv]; exact lx, by rw [hn], by rw [off_set h hl]⟩
      · exact ⟨j, x, by rw [set_get h, if_neg e]; exact hj, lx, rfl, by rw [off_set h hl]⟩
    · rintro ⟨j, x, hj, lx, rfl, rfl⟩
      rw [set_get h] at hj
      rw [off_set h hl]
      by_cases e : j = i
      · subst e
        rw [if_pos rfl] at hj; cases hj
        exact ⟨j, o, h, by rw [← hv]; exact lx, by rw [hn], rfl⟩
      · rw [if_neg e] at hj
        exact ⟨j, x, hj, lx, rfl, rfl⟩
  · have g : ∀ (a : Nat) (x : Ob), (O.set i o')[a]? = some x → ∃ z, O[a]? = some z ∧ z.live = x.live ∧ z.num = x.num := fun a x ha => by
      rw [set_get h] at ha
      by_cases e : a = i
      · subst e; rw [if_pos rfl] at ha; cases ha
        exact ⟨o, h, hv.symm, hn.symm⟩
      · rw [if_neg e] at ha; exact ⟨x, ha, rfl, rfl⟩
    obtain ⟨z1, q1, q2, q3⟩ := g a x ha
    obtain ⟨z2, r1, r2, r3⟩ := g b y hb
    exact G.un a b z1 z2 q1 r1 (q2.trans la) (r2.trans lb) (by rw [q3, r3, e])
theorem Good.kill {O : List Ob} {kvs : List (Key × V)} {least : Int} (G : Good O kvs least) {i : Nat} {o : Ob} (h : O[i]? = some o) (ho : o.live = true) (hn : 0 ≤ o.num) :
    Good (O.set i { o with live := false }) (dropK kvs (.inl o.num)) (if o.num < least then o.num else least) := by
  refine ⟨fun k v => ?_, nd_drop G.nd, fun a b x y ha hb la lb e => ?_, ?_⟩
  · rw [valV_drop]
    constructor
    · intro hv
      split at hv
      · cases hv
      · rename_i hk
        obtain ⟨j, x, hj, lx, rfl, rfl⟩ := (G.val _ _).mp hv
        have e : j ≠ i := fun e => by subst e; rw [h] at hj; cases hj; exact hk rfl
        exact ⟨j, x, by rw [set_get h, if_neg e]; exact hj, lx, rfl, by rw [off_set (o' := { o with live := false }) h rfl]⟩
    · rintro ⟨j, x, hj, lx, rfl, rfl⟩
      rw [set_get h] at hj
      rw [off_set (o' := { o with live := false }) h rfl]
      by_cases e : j = i
      · subst e; rw [if_pos rfl] at hj; cases hj; cases lx
      · rw [if_neg e] at hj
        rw [if_neg (fun z => e (G.un j i x o hj h lx ho (Sum.inl.inj z)))]
        exact (G.val _ _).mpr ⟨j, x, hj, lx, rfl, rfl⟩
  · have g : ∀ (a : Nat) (x : Ob), x.live = true → (O.set i { o with live := false })[a]? = some x → O[a]? = some x := fun a x lx ha => by
      rw [set_get h] at ha
      by_cases e : a = i
      · subst e; rw [if_pos rfl] at ha; cases ha; cases lx
      · rw [if_neg e] at ha; exact ha
    exact G.un a b x y (g a x la ha) (g b y lb hb) la lb e
  · have hs := G.seen
    refine ⟨by split; exact hn; exact hs.1, fun n h0 h1 => ?_⟩
    rw [valV_drop]
    have h2 : n < o.num ∧ n < least ∨ ¬ o.num < least ∧ n < least := by split at h1 <;> omega
    rw [if_neg (fun z => by have := Sum.inl.inj z; omega)]
    exact hs.2 n h0 (by omega)
def swapO (O : List Ob) (i j : Nat) (a b : Ob) : List Ob := (O.set i { a with num := b.num }).set j { b with num := a.num }
theorem swap_get {O : List Ob} {i j k : Nat} {a b : Ob} (ha : O[i]? = some a) (hb : O[j]? = some b) : (swapO O i j a b)[k]? = if k = j then some { b with num := a.num } else if k = i then some { a with num := b.num } else O[k]? := by
  unfold swapO
  have hj : (O.set i { a with num := b.num })[j]? = some (if j = i then { a with num := b.num } else b) := by
    rw [set_get ha]
    split
    · rfl
    · exact hb
  rw [set_get hj, set_get ha]
theorem swap_off {O : List Ob} {i j k : Nat} {a b : Ob} (ha : O[i]? = some a) (hb : O[j]? = some b) : off (swapO O i j a b) k = off O k := by
  unfold swapO
  have hj : (O.set i { a with num := b.num })[j]? = some (if j = i then { a with num := b.num } else b) := by
    rw [set_get ha]
    split
    · rfl
    · exact hb
  rw [off_set hj, off_set ha] <;> (try rfl)
  split
  · rename_i e; subst e; rw [ha] at hb; cases hb; rfl
  · rfl
theorem swap_flat {O : List Ob} {i j : Nat} {a b : Ob} (ha : O[i]? = some a) (hb : O[j]? = some b) : ((flat O).set (off O i) b.num).set (off O j) a.num = flat (swapO O i j a b) := by
  have hj : (O.set i { a with num := b.num })[j]? = some (if j = i then { a with num := b.num } else b) := by
    rw [set_get ha]
    split
    · rfl
    · exact hb
  rw [set_num b.num ha]
  have e : off O j = off (O.set i { a with num := b.num }) j := (off_set (o' := { a with num := b.num }) ha rfl).symm
  rw [e, set_num a.num hj]
  unfold swapO
  congr 1
  by_cases q : j = i
  · subst q; rw [ha] at hb; cases hb
    rw [if_pos rfl]
  · rw [if_neg q]
theorem Good.swap {O : List Ob} {kvs : List (Key × V)} {least : Int} (G : Good O kvs least) {i j : Nat} {a b : Ob} (ha : O[i]? = some a) (hb : O[j]? = some b) (la : a.live = true) (lb : b.live = true) :
    Good (swapO O i j a b) (putK (putK kvs (.inl a.num) (.int (off O j : Nat))) (.inl b.num) (.int (off O i : Nat))) least := by
  have vv : ∀ k, valV (putK (putK kvs (.inl a.num) (.int (off O j : Nat))) (.inl b.num) (.int (off O i : Nat))) k = if k = .inl b.num then some (.int (off O i : Nat)) else if k = .inl a.num then some (.int (off O j : Nat)) else valV kvs k := fun k => by rw [valV_put, valV_put]
  refine ⟨fun k v => ?_, nd_put (nd_put G.nd), fun p q x y hp hq lx ly e => ?_, G.seen.1, fun n h0 h1 => ?_⟩
  · rw [vv]
    constructor
    · intro hv
      split at hv
      · rename_i hk
        cases hv
        by_cases q : i = j
        · subst q; rw [ha] at hb; cases hb
          exact ⟨i, { a with num := a.num }, by rw [swap_get ha ha, if_pos rfl], la, hk, by rw [swap_off ha ha]⟩
        · exact ⟨i, { a with num := b.num }, by rw [swap_get ha hb, if_neg q, if_pos rfl], la, hk, by rw [swap_off ha hb]⟩
      · split at hv
        · rename_i hk
          cases hv
          exact ⟨j, { b with num := a.num }, by rw [swap_get ha hb, if_pos rfl], lb, hk, by rw [swap_off ha hb]⟩
        · rename_i k1 k2
          obtain ⟨m, x, hm, lx, rfl, rfl⟩ := (G.val _ _).mp hv
          have e1 : m ≠ j := fun e => by subst e; rw [hb] at hm; cases hm; exact k1 rfl
          have e2 : m ≠ i := fun e => by subst e; rw [ha] at hm; cases hm; exact k2 rfl
          exact ⟨m, x, by rw [swap_get ha hb, if_neg e1, if_neg e2]; exact hm, lx, rfl, by rw [swap_off ha hb]⟩
    · rintro ⟨m, x, hm, lx, rfl, rfl⟩
      rw [swap_get ha hb] at hm
      rw [swap_off ha hb]
      by_cases e1 : m = j
      · subst e1
        rw [if_pos rfl] at hm; cases hm
        by_cases q : a.num = b.num
        · have := G.un i m a b ha hb la lb q
          subst this
          rw [if_pos (by rw [q])]
        · rw [if_neg (fun z => q (Sum.inl.inj z)), if_pos rfl]
      · rw [if_neg e1] at hm
        by_cases e2 : m = i
        · subst e2
          rw [if_pos rfl] at hm; cases hm
          rw [if_pos rfl]
        · rw [if_neg e2] at hm
          rw [if_neg (fun z => e1 (G.un m j x b hm hb lx lb (Sum.inl.inj z))), if_neg (fun z => e2 (G.un m i x a hm ha lx la (Sum.inl.inj z)))]
          exact (G.val _ _).mpr ⟨m, x, hm, lx, rfl, rfl⟩
  · rw [swap_get ha hb] at hp hq
    by_cases p1 : p = j <;> by_cases q1 : q = j
    · omega
    · subst p1
      rw [if_pos rfl] at hp; cases hp
      rw [if_neg q1] at hq
      by_cases q2 : q = i
      · subst q2; rw [if_pos rfl] at hq; cases hq
        exact (G.un q p a b ha hb la lb e).symm
      · rw [if_neg q2] at hq
        exact absurd (G.un i q a y ha hq la ly e).symm q2
    · subst q1
      rw [if_pos rfl] at hq; cases hq
      rw [if_neg p1] at hp
      by_cases p2 : p = i
      · subst p2; rw [if_pos rfl] at hp; cases hp
        exact G.un p q a b ha hb la lb e.symm
      · rw [if_neg p2] at hp
        exact absurd (G.un p i x a hp ha lx la e) p2
    · rw [if_neg p1] at hp
      rw [if_neg q1] at hq
      by_cases p2 : p = i <;> by_cases q2 : q = i
      · omega
      · subst p2; rw [if_pos rfl] at hp; cases hp
        rw [if_neg q2] at hq
        exact absurd (G.un j q b y hb hq lb ly e).symm q1
      · subst q2; rw [if_pos rfl] at hq; cases hq
        rw [if_neg p2] at hp
        exact absurd (G.un p j x b hp hb lx lb e) p1
      · rw [if_neg p2] at hp; rw [if_neg q2] at hq
        exact G.un p q x y hp hq lx ly e
  · rw [vv]
    split
    · rfl
    · split
      · rfl
      · exact G.seen.2 n h0 h1
theorem Good.add {O : List Ob} {kvs : List (Key × V)} {least : Int} (G : Good O kvs least) {o : Ob} (ho : o.live = true) (hn : valV kvs (.inl o.num) = none) (hs : Seen kvs o.num) :
    Good (O ++ [o]) (putK kvs (.inl o.num) (.int (flat O).length)) o.num := by
  have no : ∀ (i : Nat) (x : Ob), O[i]? = some x → x.live = true → x.num ≠ o.num := fun i x hi lx e => by
    have := G.at hi lx
    rw [e, hn] at this
    cases this
  have ga : ∀ k : Nat, (O ++ [o])[k]? = if k < O.length then O[k]? else if k = O.length then some o else none := fun k => by
    by_cases h : k < O.length
    · rw [if_pos h, List.getElem?_append_left h]
    · rw [if_neg h, List.getElem?_append_right (by omega)]
      by_cases h2 : k = O.length
      · rw [if_pos h2, h2, Nat.sub_self]; rfl
      · rw [if_neg h2]
        exact List.getElem?_eq_none_iff.mpr (by simp; omega)
  refine ⟨fun k v => ?_, nd_put G.nd, fun p q x y hp hq lx ly e => ?_, hs.1, fun n h0 h1 => ?_⟩
  · rw [valV_put]
    constructor
    · intro hv
      split at hv
      · rename_i hk
        cases hv
        exact ⟨O.length, o, by rw [ga, if_neg (by omega), if_pos rfl], ho, hk, by rw [off_app (Nat.le_refl _), off_end]⟩
      · obtain ⟨m, x, hm, lx, rfl, rfl⟩ := (G.val _ _).mp hv
        have hl := (List.getElem?_eq_some_iff.mp hm).1
        exact ⟨m, x, by rw [ga, if_pos hl]; exact hm, lx, rfl, by rw [off_app (by omega)]⟩
    · rintro ⟨m, x, hm, lx, rfl, rfl⟩
      rw [ga] at hm
      by_cases hl : m < O.length
      · rw [if_pos hl] at hm
        rw [off_app (by omega), if_neg (fun z => no m x hm lx (Sum.inl.inj z))]
        exact (G.val _ _).mpr ⟨m, x, hm, lx, rfl, rfl⟩
      · rw [if_neg hl] at hm
        split at hm
        · rename_i e; cases hm
          rw [if_pos rfl, e, off_app (Nat.le_refl _), off_end]
        · cases hm
  · rw [ga] at hp hq
    split at hp
    · split at hq
      · exact G.un p q x y hp hq lx ly e
      · split at hq
        · cases hq; exact absurd e (no p x hp lx)
        · cases hq
    · split at hp
      · cases hp
        split at hq
        · exact absurd e.symm (no q y hq ly)
        · split at hq
          · omega
          · cases hq
      · cases hp
  · rw [valV_put]
    split
    · rfl
    · exact hs.2 n h0 h1

end LX
namespace LX
open PySem PySem.Spec PyProof.Rows L2 NdefX
structure RowAt (H : Hp) (rl : Addr) (A : List (Addr × Addr)) (O : List Ob) : Prop where
  rl : H rl = some (.lst (A.map fun a => V.ref a.1))
  len : A.length = O.length
  it : ∀ (i : Nat) (a : Addr × Addr) (o : Ob), A[i]? = some a → O[i]? = some o → H a.1 = some (.lst [.int o.num, .int o.kind, .ref a.2, .bl o.live]) ∧ H a.2 = some (.lst (o.sl.map V.int))
structure Sep (A : List (Addr × Addr)) (rl : Addr) (X : List Addr) : Prop where
  d1 : ∀ (i j : Nat) (a b : Addr × Addr), A[i]? = some a → A[j]? = some b → (a.1 = b.1 ∨ a.2 = b.2) → i = j
  d2 : ∀ a b, a ∈ A → b ∈ A → a.1 ≠ b.2
  d3 : ∀ a ∈ A, a.1 ≠ rl ∧ a.2 ≠ rl
  d4 : rl ∉ X
  d5 : ∀ a ∈ A, a.1 ∉ X ∧ a.2 ∉ X
theorem RowAt.keep {H H' : Hp} {rl : Addr} {A : List (Addr × Addr)} {O : List Ob} {F : List Addr} (R : RowAt H rl A O) (f : Fr F H H') (h1 : rl ∉ F) (h2 : ∀ a ∈ A, a.1 ∉ F ∧ a.2 ∉ F) : RowAt H' rl A O :=
  ⟨f _ _ R.rl h1, R.len, fun i a o ha ho => ⟨f _ _ (R.it i a o ha ho).1 (h2 a (List.mem_of_getElem? ha)).1, f _ _ (R.it i a o ha ho).2 (h2 a (List.mem_of_getElem? ha)).2⟩⟩
theorem RowAt.mono {H H' : Hp} {rl : Addr} {A : List (Addr × Addr)} {O : List Ob} (R : RowAt H rl A O) (f : Fr [] H H') : RowAt H' rl A O := R.keep f (by simp) (by simp)
theorem RowAt.get {H : Hp} {rl : Addr} {A : List (Addr × Addr)} {O : List Ob} (R : RowAt H rl A O) {i : Nat} {o : Ob} (h : O[i]? = some o) : ∃ a, A[i]? = some a ∧ H a.1 = some (.lst [.int o.num, .int o.kind, .ref a.2, .bl o.live]) ∧ H a.2 = some (.lst (o.sl.map V.int)) := by
  have hi := (List.getElem?_eq_some_iff.mp h).1
  have hA : i < A.length := by rw [R.len]; exact hi
  exact ⟨A[i], List.getElem?_eq_getElem hA, R.it i _ o (List.getElem?_eq_getElem hA) h⟩
theorem RowAt.set {H H' : Hp} {rl : Addr} {A : List (Addr × Addr)} {O : List Ob} {X : List Addr} (R : RowAt H rl A O) (D : Sep A rl X) {i : Nat} {a : Addr × Addr} {o o' : Ob} (ha : A[i]? = some a) (ho : O[i]? = some o)
    (h1 : H' a.1 = some (.lst [.int o'.num, .int o'.kind, .ref a.2, .bl o'.live])) (h2 : H' a.2 = some (.lst (o'.sl.map V.int))) (f : Fr (a.1 :: a.2 :: X) H H') : RowAt H' rl A (O.set i o') := by
  have ma := List.mem_of_getElem? ha
  refine ⟨f _ _ R.rl (by have := D.d3 a ma; simp [this.1.symm, this.2.symm, D.d4]), by rw [List.length_set]; exact R.len, fun j b x hb hx => ?_⟩
  rw [set_get ho] at hx
  by_cases e : j = i
  · subst e
    rw [if_pos rfl] at hx; cases hx
    rw [ha] at hb; cases hb
    exact ⟨h1, h2⟩
  · rw [if_neg e] at hx
    have mb := List.mem_of_getElem? hb
    have n1 : b.1 ≠ a.1 := fun z => e (D.d1 j i b a hb ha (Or.inl z))
    have n2 : b.2 ≠ a.2 := fun z => e (D.d1 j i b a hb ha (Or.inr z))
    have n3 : b.1 ≠ a.2 := D.d2 b a mb ma
    have n4 : b.2 ≠ a.1 := (D.d2 a b ma mb).symm
    obtain ⟨q1, q2⟩ := R.it j b x hb hx
    exact ⟨f _ _ q1 (by simp [n1, n3, (D.d5 b mb).1]), f _ _ q2 (by simp [n2, n4, (D.d5 b mb).2])⟩
def ad (A : List (Addr × Addr)) : List Addr := A.flatMap fun a => [a.1, a.2]
theorem ad_mem {A : List (Addr × Addr)} {a : Addr × Addr} (h : a ∈ A) : a.1 ∈ ad A ∧ a.2 ∈ ad A :=
  ⟨List.mem_flatMap.mpr ⟨a, h, by simp⟩, List.mem_flatMap.mpr ⟨a, h, by simp⟩⟩
def Zl (A : List (Addr × Addr)) (O : List Ob) : List ((Addr × Addr) × Ob) := (A.zip O).filter (·.2.live)
theorem Zl_get {A : List (Addr × Addr)} {O : List Ob} {z : (Addr × Addr) × Ob} (h : z ∈ Zl A O) : ∃ i : Nat, A[i]? = some z.1 ∧ O[i]? = some z.2 ∧ z.2.live = true := by
  obtain ⟨h1, h2⟩ := List.mem_filter.mp h
  obtain ⟨i, hi⟩ := List.getElem?_of_mem h1
  obtain ⟨q1, q2⟩ := List.getElem?_zip_eq_some.mp hi
  exact ⟨i, q1, q2, h2⟩
theorem Zl_snd {A : List (Addr × Addr)} {O : List Ob} (h : A.length = O.length) : (Zl A O).map (·.2) = O.filter (·.live) := by
  unfold Zl
  have : ∀ (A : List (Addr × Addr)) (O : List Ob), A.length = O.length → ((A.zip O).filter (·.2.live)).map (·.2) = O.filter (·.live) := by
    intro A
    induction A with
    | nil => intro O h; cases O with
      | nil => rfl
      | cons => simp at h
    | cons a r ih => intro O h; cases O with
      | nil => simp at h
      | cons o t =>
        have := ih t (by simpa using h)
        rw [List.zip_cons_cons]
        by_cases q : o.live = true
        · rw [List.filter_cons_of_pos (by exact q), List.filter_cons_of_pos (by exact q), List.map_cons, this]
        · rw [List.filter_cons_of_neg (by exact q), List.filter_cons_of_neg (by exact q), this]
  exact this A O h
theorem take_filter_yes {α : Type} {l : List α} {p : α → Bool} {i : Nat} {x : α} (h : l[i]? = some x) (hp : p x = true) : (l.take (i + 1)).filter p = (l.take i).filter p ++ [x] := by
  rw [List.take_succ, h, List.filter_append]
  simp [hp]
theorem take_filter_no {α : Type} {l : List α} {p : α → Bool} {i : Nat} {x : α} (h : l[i]? = some x) (hp : p x = false) : (l.take (i + 1)).filter p = (l.take i).filter p := by
  rw [List.take_succ, h, List.filter_append]
  simp [hp]
section
variable {P : Program} {w : World} {K : PySem.W.Frag} {mg : Str → Option Value} {base : Heap}
theorem flat_take {O : List Ob} {i : Nat} {o : Ob} (h : O[i]? = some o) : flat (O.take (i + 1)) = flat (O.take i) ++ [o.num, (o.sl.length : Int), o.kind] ++ o.sl := by
  rw [List.take_succ, h, flat_app]
  show flat (O.take i) ++ (fl o ++ []) = _
  rw [List.append_nil, List.append_assoc]
  rfl
end

end LX
namespace LX
open PySem PySem.Spec PyProof.Rows L2 NdefX
theorem Fr.of {F : List Addr} {H H' : Hp} {x y : Addr} (h : ∀ b, b ≠ x → b ≠ y → H' b = H b) (hx : x ∈ F) (hy : y ∈ F) : Fr F H H' := fun b o e n => by
  rw [h b (fun z => n (by rw [z]; exact hx)) (fun z => n (by rw [z]; exact hy))]; exact e
theorem StoreAt.keep {H H' : Hp} {C st dx wl pl : Addr} {room entries least : Int} {ws : List Int} {kvs : List (Key × V)} {F : List Addr} (S : StoreAt H C st dx wl pl room entries least ws kvs) (f : Fr F H H') (h : ∀ b, b ∈ [st, wl, pl] → b ∉ F) : StoreAt H' C st dx wl pl room entries least ws kvs :=
  ⟨f _ _ S.st (h _ (by simp)), f _ _ S.wl (h _ (by simp)), f _ _ S.pl (h _ (by simp))⟩
theorem RowAt.setItem {H H' : Hp} {rl : Addr} {A : List (Addr × Addr)} {O : List Ob} {X : List Addr} (R : RowAt H rl A O) (D : Sep A rl X) {i : Nat} {a : Addr × Addr} {o o' : Ob} (ha : A[i]? = some a) (ho : O[i]? = some o) (hs : o'.sl = o.sl)
    (h1 : H' a.1 = some (.lst [.int o'.num, .int o'.kind, .ref a.2, .bl o'.live])) (f : Fr (a.1 :: X) H H') : RowAt H' rl A (O.set i o') := by
  have ma := List.mem_of_getElem? ha
  refine R.set D ha ho h1 ?_ (f.mono fun b hb => by rcases List.mem_cons.mp hb with h | h <;> simp [h])
  rw [hs]
  exact f _ _ (R.it i a o ha ho).2 (by simp [(D.d2 a a ma ma).symm, (D.d5 a ma).2])
theorem RowAt.setSl {H H' : Hp} {rl : Addr} {A : List (Addr × Addr)} {O : List Ob} {X : List Addr} (R : RowAt H rl A O) (D : Sep A rl X) {i : Nat} {a : Addr × Addr} {o o' : Ob} (ha : A[i]? = some a) (ho : O[i]? = some o) (hn : o'.num = o.num) (hk : o'.kind = o.kind) (hv : o'.live = o.live)
    (h2 : H' a.2 = some (.lst (o'.sl.map V.int))) (f : Fr (a.2 :: X) H H') : RowAt H' rl A (O.set i o') := by
  have ma := List.mem_of_getElem? ha
  refine R.set D ha ho ?_ h2 (f.mono fun b hb => by rcases List.mem_cons.mp hb with h | h <;> simp [h])
  rw [hn, hk, hv]
  exact f _ _ (R.it i a o ha ho).1 (by simp [(D.d2 a a ma ma), (D.d5 a ma).1])
/-- the store and the row of the law -/
structure Law4 (C : Addr) (H : Hp) (st dx wl pl rl : Addr) (A : List (Addr × Addr)) (O : List Ob) (kvs : List (Key × V)) (least : Int) : Prop where
  S : StoreAt H C st dx wl pl 100000 100000 least (flat O) kvs
  G : Good O kvs least
  R : RowAt H rl A O
  D : Sep A rl [st, wl, pl]
  sz : ∀ o ∈ O, o.sl.length ≤ 39
  nn : ∀ o ∈ O, 0 ≤ o.num
theorem Law4.keep {C : Addr} {H H' : Hp} {st dx wl pl rl : Addr} {A : List (Addr × Addr)} {O : List Ob} {kvs : List (Key × V)} {least : Int} (L : Law4 C H st dx wl pl rl A O kvs least) (f : Fr [] H H') : Law4 C H' st dx wl pl rl A O kvs least :=
  ⟨L.S.keep f (by simp), L.G, L.R.mono f, L.D, L.sz, L.nn⟩
theorem flat_len {O : List Ob} (h : ∀ o ∈ O, o.sl.length ≤ 39) : (flat O).length ≤ 42 * O.length := by
  induction O with
  | nil => exact Nat.zero_le _
  | cons o r ih =>
    have := ih fun x hx => h x (List.mem_cons_of_mem _ hx)
    have := h o List.mem_cons_self
    rw [flat_cons, List.length_append, fl_len, List.length_cons]
    omega
theorem Good.kl {O : List Ob} {kvs : List (Key × V)} {least : Int} (G : Good O kvs least) : kvs.length ≤ O.length := by
  obtain ⟨ns, h1, h2⟩ := G.ints
  have e := congrArg List.length h1
  rw [List.length_map, List.length_map, h2.length_eq, List.length_map] at e
  have := List.length_filter_le (fun o : Ob => o.live) O
  omega
theorem pick {A : List (Addr × Addr)} {O : List Ob} (y : Int) (h : Zl A O ≠ []) : ∃ (z : (Addr × Addr) × Ob) (i : Nat), atI ((Zl A O).map fun z => V.ref z.1.1) (y % ((Zl A O).length : Int)) = some (V.ref z.1.1) ∧ A[i]? = some z.1 ∧ O[i]? = some z.2 ∧ z.2.live = true := by
  have hp : 0 < (Zl A O).length := List.length_pos_iff.mpr h
  have e1 := Int.emod_nonneg y (by omega : ((Zl A O).length : Int) ≠ 0)
  have e2 := Int.emod_lt_of_pos y (by omega : (0 : Int) < ((Zl A O).length : Int))
  generalize y % ((Zl A O).length : Int) = d at e1 e2
  have hi : d.toNat < (Zl A O).length := by omega
  obtain ⟨i, q1, q2, q3⟩ := Zl_get (List.getElem_mem hi)
  refine ⟨(Zl A O)[d.toNat], i, ?_, q1, q2, q3⟩
  have e : ((d.toNat : Nat) : Int) = d := by omega
  have z := atI_nat (xs := (Zl A O).map fun z => V.ref z.1.1) (j := d.toNat) (by rw [List.getElem?_map, List.getElem?_eq_getElem hi]; rfl)
  rw [e] at z
  exact z
theorem Law4.kill {C : Addr} {H H' : Hp} {st dx wl pl rl : Addr} {A : List (Addr × Addr)} {O : List Ob} {kvs : List (Key × V)} {least : Int} (L : Law4 C H st dx wl pl rl A O kvs least) {i : Nat} {a : Addr × Addr} {o : Ob} (ha : A[i]? = some a) (ho : O[i]? = some o) (hl : o.live = true)
    (S' : StoreAt H' C st dx wl pl 100000 100000 (if o.num < least then o.num else least) (flat O) (dropK kvs (.inl o.num))) (h1 : H' a.1 = some (.lst [.int o.num, .int o.kind, .ref a.2, .bl false])) (f : Fr (a.1 :: [st, wl, pl]) H H') :
    Law4 C H' st dx wl pl rl A (O.set i { o with live := false }) (dropK kvs (.inl o.num)) (if o.num < least then o.num else least) := by
  have mo := List.mem_of_getElem? ho
  refine ⟨by rw [flat_kill ho]; exact S', L.G.kill ho hl (L.nn o mo), L.R.setItem L.D ha ho rfl h1 f, L.D, fun x hx => ?_, fun x hx => ?_⟩
  · rcases List.mem_or_eq_of_mem_set hx with hx | rfl
    · exact L.sz x hx
    · exact L.sz o mo
  · rcases List.mem_or_eq_of_mem_set hx with hx | rfl
    · exact L.nn x hx
    · exact L.nn o mo
theorem Law4.swap {C : Addr} {H H4 : Hp} {st dx wl pl rl : Addr} {A : List (Addr × Addr)} {O : List Ob} {kvs : List (Key × V)} {least : Int} (L : Law4 C H st dx wl pl rl A O kvs least) {i j : Nat} {a b : Addr × Addr} {o p : Ob} (ha : A[i]? = some a) (ho : O[i]? = some o) (hb : A[j]? = some b) (hp : O[j]? = some p) (hl : o.live = true) (hl2 : p.live = true)
    (S' : StoreAt H4 C st dx wl pl 100000 100000 least (((flat O).set (off O i) p.num).set (off O j) o.num) (putK (putK kvs (.inl o.num) (.int (off O j : Nat))) (.inl p.num) (.int (off O i : Nat))))
    (R4 : RowAt H4 rl A (swapO O i j o p)) :
    Law4 C H4 st dx wl pl rl A (swapO O i j o p) (putK (putK kvs (.inl o.num) (.int (off O j : Nat))) (.inl p.num) (.int (off O i : Nat))) least := by
  have mo := List.mem_of_getElem? ho
  have mp := List.mem_of_getElem? hp
  have mm : ∀ x ∈ swapO O i j o p, x ∈ O ∨ x = { o with num := p.num } ∨ x = { p with num := o.num } := fun x hx => by
    rcases List.mem_or_eq_of_mem_set hx with hx | rfl
    · rcases List.mem_or_eq_of_mem_set hx with hx | rfl
      · exact Or.inl hx
      · exact Or.inr (Or.inl rfl)
    · exact Or.inr (Or.inr rfl)
  refine ⟨by rw [← swap_flat ho hp]; exact S', L.G.swap ho hp hl hl2, R4, L.D, fun x hx => ?_, fun x hx => ?_⟩
  · rcases mm x hx with hx | rfl | rfl
    · exact L.sz x hx
    · exact L.sz o mo
    · exact L.sz p mp
  · rcases mm x hx with hx | rfl | rfl
    · exact L.nn x hx
    · exact L.nn p mp
    · exact L.nn o mo
theorem get_snoc {α : Type} {l : List α} {x y : α} {k : Nat} (h : (l ++ [x])[k]? = some y) : l[k]? = some y ∨ k = l.length ∧ y = x := by
  by_cases hk : k < l.length
  · rw [List.getElem?_append_left hk] at h; exact Or.inl h
  · rw [List.getElem?_append_right (by omega)] at h
    have hlt := (List.getElem?_eq_some_iff.mp h).1
    have : k - l.length = 0 := by simpa using hlt
    rw [this] at h
    exact Or.inr ⟨by omega, by cases h; rfl⟩
theorem Law4.add {C : Addr} {H H' : Hp} {st dx wl pl rl : Addr} {A : List (Addr × Addr)} {O : List Ob} {kvs : List (Key × V)} {least : Int} (L : Law4 C H st dx wl pl rl A O kvs least) {a : Addr × Addr} {m x : Int} {z : Nat} (hz : z ≤ 39) (hn : valV kvs (.inl m) = none) (hs : Seen kvs m)
    (S' : StoreAt H' C st dx wl pl 100000 100000 m (flat O ++ (m :: (z : Int) :: x :: List.replicate z 0)) (putK kvs (.inl m) (.int ((flat O).length : Int)))) (h1 : H' a.1 = some (.lst [.int m, .int x, .ref a.2, .bl true])) (h2 : H' a.2 = some (.lst ((List.replicate z (0 : Int)).map V.int)))
    (hr : H' rl = some (.lst ((A ++ [a]).map fun a => V.ref a.1))) (f : Fr [st, wl, pl, rl] H H') (n1 : H a.1 = none) (n2 : H a.2 = none) (n12 : a.1 ≠ a.2) :
    Law4 C H' st dx wl pl rl (A ++ [a]) (O ++ [⟨m, x, List.replicate z 0, true⟩]) (putK kvs (.inl m) (.int ((flat O).length : Int))) m := by
  have there : ∀ b ∈ A, b.1 ≠ a.1 ∧ b.1 ≠ a.2 ∧ b.2 ≠ a.1 ∧ b.2 ≠ a.2 := fun b hb => by
    obtain ⟨i, hi⟩ := List.getElem?_of_mem hb
    have hl : i < O.length := by rw [← L.R.len]; exact (List.getElem?_eq_some_iff.mp hi).1
    obtain ⟨q1, q2⟩ := L.R.it i b _ hi (List.getElem?_eq_getElem hl)
    exact ⟨ne_of_none q1 n1, ne_of_none q1 n2, ne_of_none q2 n1, ne_of_none q2 n2⟩
  refine ⟨?_, L.G.add (o := ⟨m, x, List.replicate z 0, true⟩) rfl hn hs, ⟨hr, by rw [List.length_append, List.length_append, L.R.len]; rfl, fun i b o hb ho => ?_⟩, ⟨fun i j b c hb hc h => ?_, fun b c hb hc => ?_, fun b hb => ?_, L.D.d4, fun b hb => ?_⟩, fun o ho => ?_, fun o ho => ?_⟩
  · rw [flat_app]
    show StoreAt H' C st dx wl pl 100000 100000 m (flat O ++ (fl _ ++ [])) _
    rw [List.append_nil]
    unfold fl
    rw [List.length_replicate]
    exact S'
  · rcases get_snoc hb with hb | ⟨e, rfl⟩
    · have hl : i < O.length := by rw [← L.R.len]; exact (List.getElem?_eq_some_iff.mp hb).1
      rw [List.getElem?_append_left hl] at ho
      obtain ⟨q1, q2⟩ := L.R.it i b o hb ho
      have mb := List.mem_of_getElem? hb
      have d3 := L.D.d3 b mb
      have d5 := L.D.d5 b mb
      have g1 : b.1 ∉ [st, wl, pl, rl] := fun z => by
        rcases List.mem_append.mp (show b.1 ∈ [st, wl, pl] ++ [rl] from z) with z | z
        · exact d5.1 z
        · exact d3.1 (by simpa using z)
      have g2 : b.2 ∉ [st, wl, pl, rl] := fun z => by
        rcases List.mem_append.mp (show b.2 ∈ [st, wl, pl] ++ [rl] from z) with z | z
        · exact d5.2 z
        · exact d3.2 (by simpa using z)
      exact ⟨f _ _ q1 g1, f _ _ q2 g2⟩
    · rcases get_snoc ho with ho | ⟨e2, rfl⟩
      · have := (List.getElem?_eq_some_iff.mp ho).1
        rw [L.R.len] at e
        omega
      · exact ⟨h1, h2⟩
  · rcases get_snoc hb with hb' | ⟨e, e'⟩ <;> rcases get_snoc hc with hc' | ⟨e2, e2'⟩
    · exact L.D.d1 i j b c hb' hc' h
    · have t := there b (List.mem_of_getElem? hb')
      rw [e2'] at h
      rcases h with h | h
      · exact absurd h t.1
      · exact absurd h t.2.2.2
    · have t := there c (List.mem_of_getElem? hc')
      rw [e'] at h
      rcases h with h | h
      · exact absurd h.symm t.1
      · exact absurd h.symm t.2.2.2
    · omega
  · rcases List.mem_append.mp hb with hb' | hb' <;> rcases List.mem_append.mp hc with hc' | hc'
    · exact L.D.d2 b c hb' hc'
    · have e : c = a := by simpa using hc'
      rw [e]
      exact (there b hb').2.1
    · have e : b = a := by simpa using hb'
      rw [e]
      exact ((there c hc').2.2.1).symm
    · have e1 : b = a := by simpa using hb'
      have e2 : c = a := by simpa using hc'
      rw [e1, e2]
      exact n12
  · rcases List.mem_append.mp hb with hb | hb
    · exact L.D.d3 b hb
    · have e1 : b = a := by simpa using hb
      rw [e1]
      exact ⟨(ne_of_none L.R.rl n1).symm, (ne_of_none L.R.rl n2).symm⟩
  · rcases List.mem_append.mp hb with hb | hb
    · exact L.D.d5 b hb
    · have e1 : b = a := by simpa using hb
      rw [e1]
      have c1 : ∀ c, H c = none → c ∉ [st, wl, pl] := fun c hc hm => by
        have := L.S
        simp only [List.mem_cons, List.not_mem_nil, or_false] at hm
        rcases hm with rfl | rfl | rfl
        · rw [this.st] at hc; cases hc
        · rw [this.wl] at hc; cases hc
        · rw [this.pl] at hc; cases hc
      exact ⟨c1 _ n1, c1 _ n2⟩
  · rcases List.mem_append.mp ho with ho | ho
    · exact L.sz o ho
    · have e : o = ⟨m, x, List.replicate z 0, true⟩ := by simpa using ho
      rw [e]
      show (List.replicate z (0 : Int)).length ≤ 39
      rw [List.length_replicate]; exact hz
  · rcases List.mem_append.mp ho with ho | ho
    · exact L.nn o ho
    · have e : o = ⟨m, x, List.replicate z 0, true⟩ := by simpa using ho
      rw [e]
      exact hs.1

end LX
namespace LX
open PySem PySem.Spec PyProof.Rows L2 NdefX
/-! ### what is reached, plainly -/
def Live (O : List Ob) (n : Int) : Prop := ∃ (i : Nat) (o : Ob), O[i]? = some o ∧ o.live = true ∧ o.num = n
inductive Reach (O : List Ob) (rs : List Int) : Int → Prop where
  | root {w : Int} : w ∈ rs → w % 2 = 0 → Live O (w / 2) → Reach O rs (w / 2)
  | step {m w : Int} {i : Nat} {o : Ob} : Reach O rs m → O[i]? = some o → o.live = true → o.num = m → w ∈ o.kind :: o.sl → w % 2 = 0 → Live O (w / 2) → Reach O rs (w / 2)
theorem Reach.live {O : List Ob} {rs : List Int} {n : Int} (h : Reach O rs n) : Live O n := by cases h <;> assumption
theorem Good.iff {O : List Ob} {kvs : List (Key × V)} {least : Int} (G : Good O kvs least) (n : Int) : (valV kvs (.inl n)).isSome = true ↔ Live O n := by
  constructor
  · intro h
    obtain ⟨v, hv⟩ := Option.isSome_iff_exists.mp h
    obtain ⟨i, o, h1, h2, h3, _⟩ := (G.val _ _).mp hv
    exact ⟨i, o, h1, h2, (Sum.inl.inj h3).symm⟩
  · rintro ⟨i, o, h1, h2, rfl⟩
    rw [G.at h1 h2]; rfl
theorem nd_len {α : Type} [DecidableEq α] : ∀ (l m : List α), l.Nodup → (∀ x ∈ l, x ∈ m) → l.length ≤ m.length
  | [], _, _, _ => Nat.zero_le _
  | a :: l, m, h, hs => by
    obtain ⟨h1, h2⟩ := List.nodup_cons.mp h
    have hm := hs a List.mem_cons_self
    have := nd_len l (m.erase a) h2 fun x hx => (List.mem_erase_of_ne (fun e => h1 (by rw [← e]; exact hx))).mpr (hs x (List.mem_cons_of_mem _ hx))
    have hl := List.length_erase_of_mem hm
    have : 0 < m.length := List.length_pos_of_mem hm
    rw [List.length_cons]
    omega
theorem live_len {O : List Ob} {F : List Int} (h : F.Nodup) (hl : ∀ n ∈ F, Live O n) : F.length ≤ O.length := by
  have := nd_len F (O.map (·.num)) h fun n hn => by
    obtain ⟨i, o, h1, _, h3⟩ := hl n hn
    exact List.mem_map.mpr ⟨o, List.mem_of_getElem? h1, h3⟩
  rw [List.length_map] at this
  exact this
/-- the references among the words -/
def refs (ws : List Int) : List Int := (ws.filter fun w => decide (w % 2 = 0)).map (· / 2)
theorem mem_refs {ws : List Int} {n : Int} : n ∈ refs ws ↔ ∃ w, w ∈ ws ∧ w % 2 = 0 ∧ w / 2 = n := by
  unfold refs
  constructor
  · intro h
    obtain ⟨w, hw, e⟩ := List.mem_map.mp h
    obtain ⟨h1, h2⟩ := List.mem_filter.mp hw
    exact ⟨w, h1, of_decide_eq_true h2, e⟩
  · rintro ⟨w, h1, h2, e⟩
    exact List.mem_map.mpr ⟨w, List.mem_filter.mpr ⟨h1, decide_eq_true h2⟩, e⟩
theorem refs_len (ws : List Int) : (refs ws).length ≤ ws.length := by unfold refs; rw [List.length_map]; exact List.length_filter_le _ _
theorem refs_take_yes {ws : List Int} {i : Nat} {w : Int} (h : ws[i]? = some w) (he : w % 2 = 0) : refs (ws.take (i + 1)) = refs (ws.take i) ++ [w / 2] := by
  unfold refs
  rw [take_filter_yes h (decide_eq_true he), List.map_append]
  rfl
theorem refs_take_no {ws : List Int} {i : Nat} {w : Int} (h : ws[i]? = some w) (he : ¬ w % 2 = 0) : refs (ws.take (i + 1)) = refs (ws.take i) := by
  unfold refs
  rw [take_filter_no h (decide_eq_false he)]
/-- a search: found, waiting; part: the object whose words are not all looked at yet -/
structure Srch (O : List Ob) (rs F Wt : List Int) (part : Option (Int × List Int)) : Prop where
  nd : F.Nodup
  fr : ∀ n ∈ F, Reach O rs n
  wr : ∀ n ∈ Wt, Live O n → Reach O rs n
  root : ∀ w ∈ rs, w % 2 = 0 → Live O (w / 2) → w / 2 ∈ F ∨ w / 2 ∈ Wt
  clos : ∀ m ∈ F, ∀ (i : Nat) (o : Ob), O[i]? = some o → o.live = true → o.num = m → ∀ w ∈ (match part with | some (p, ws) => if m = p then ws else o.kind :: o.sl | none => o.kind :: o.sl), w % 2 = 0 → Live O (w / 2) → w / 2 ∈ F ∨ w / 2 ∈ Wt
theorem Srch.start (O : List Ob) (rs : List Int) : Srch O rs [] (refs rs) none := by
  refine ⟨List.nodup_nil, fun n h => by simp at h, fun n h hl => ?_, fun w h1 h2 _ => Or.inr (mem_refs.mpr ⟨w, h1, h2, rfl⟩), fun m h => by simp at h⟩
  obtain ⟨w, h1, h2, e⟩ := mem_refs.mp h
  subst e
  exact .root h1 h2 hl
theorem Srch.done {O : List Ob} {rs F : List Int} (S : Srch O rs F [] none) (n : Int) : n ∈ F ↔ Reach O rs n := by
  refine ⟨S.fr n, fun h => ?_⟩
  induction h with
  | root h1 h2 h3 => exact (S.root _ h1 h2 h3).resolve_right (by simp)
  | step h1 h2 h3 h4 h5 h6 h7 ih => exact (S.clos _ ih _ _ h2 h3 h4 _ h5 h6 h7).resolve_right (by simp)
theorem drop_last {α : Type} {l : List α} {x : α} (h : l[l.length - 1]? = some x) : l = l.dropLast ++ [x] := by
  have hne : l ≠ [] := fun e => by subst e; simp at h
  rw [← List.getLast?_eq_getElem?, List.getLast?_eq_some_getLast hne] at h
  cases h
  exact (List.dropLast_concat_getLast hne).symm
/-- the last one is known, or is none -/
theorem Srch.pop {O : List Ob} {rs F Wt : List Int} {n : Int} (S : Srch O rs F (Wt ++ [n]) none) (h : n ∈ F ∨ ¬ Live O n) : Srch O rs F Wt none := by
  have h2 : ∀ x, Live O x → x ∈ F ∨ x ∈ Wt ++ [n] → x ∈ F ∨ x ∈ Wt := fun x hx hh => by
    rcases hh with hh | hh
    · exact Or.inl hh
    · rcases List.mem_append.mp hh with hh | hh
      · exact Or.inr hh
      · have e : x = n := by simpa using hh
        subst e
        exact Or.inl (h.resolve_right fun z => z hx)
  exact ⟨S.nd, S.fr, fun m hm => S.wr m (List.mem_append_left _ hm), fun w h1 h2' h3 => h2 _ h3 (S.root w h1 h2' h3), fun m hm i o h1 h2' h3 w hw he hl => h2 _ hl (S.clos m hm i o h1 h2' h3 w hw he hl)⟩
/-- a new one is found -/
theorem Srch.find {O : List Ob} {rs F Wt : List Int} {n : Int} (S : Srch O rs F (Wt ++ [n]) none) (hn : n ∉ F) (hl : Live O n) : Srch O rs (F ++ [n]) Wt (some (n, [])) := by
  have h2 : ∀ x, x ∈ F ∨ x ∈ Wt ++ [n] → x ∈ F ++ [n] ∨ x ∈ Wt := fun x hh => by
    rcases hh with hh | hh
    · exact Or.inl (List.mem_append_left _ hh)
    · rcases List.mem_append.mp hh with hh | hh
      · exact Or.inr hh
      · exact Or.inl (List.mem_append_right _ hh)
  refine ⟨List.nodup_append.mpr ⟨S.nd, by simp, fun a ha b hb e => ?_⟩, fun m hm => ?_, fun m hm => S.wr m (List.mem_append_left _ hm), fun w h1 h2' h3 => h2 _ (S.root w h1 h2' h3), fun m hm i o h1 h3 h4 w hw he hlw => ?_⟩
  · have hb : b = n := by simpa using hb
    rw [e, hb] at ha
    exact hn ha
  · rcases List.mem_append.mp hm with hm | hm
    · exact S.fr m hm
    · have e : m = n := by simpa using hm
      rw [e]
      exact S.wr n (List.mem_append_right _ (by simp)) hl
  · by_cases e : m = n
    · simp only [if_pos e] at hw
      simp at hw
    · simp only [if_neg e] at hw
      rcases List.mem_append.mp hm with hm | hm
      · exact h2 _ (S.clos m hm i o h1 h3 h4 w hw he hlw)
      · exact absurd (by simpa using hm) e
/-- one more word of it is looked at -/
theorem Srch.word {O : List Ob} {rs F Wt Wt' ws : List Int} {n w : Int} (S : Srch O rs F Wt (some (n, ws))) (h1 : ∀ x ∈ Wt, x ∈ Wt') (h2 : ∀ x ∈ Wt', x ∈ Wt ∨ (Live O x → Reach O rs x)) (h3 : w % 2 = 0 → Live O (w / 2) → w / 2 ∈ F ∨ w / 2 ∈ Wt') : Srch O rs F Wt' (some (n, ws ++ [w])) := by
  refine ⟨S.nd, S.fr, fun m hm hl => ?_, fun w h4 h5 h6 => ?_, fun m hm i o h4 h5 h6 x hx he hl => ?_⟩
  · rcases h2 m hm with h | h
    · exact S.wr m h hl
    · exact h hl
  · exact (S.root w h4 h5 h6).imp id (h1 _)
  · have c := S.clos m hm i o h4 h5 h6
    by_cases e : m = n
    · simp only [if_pos e] at hx c
      rcases List.mem_append.mp hx with hx | hx
      · exact (c x hx he hl).imp id (h1 _)
      · have e : x = w := by simpa using hx
        subst e
        exact h3 he hl
    · simp only [if_neg e] at hx c
      exact (c x hx he hl).imp id (h1 _)
theorem Srch.all {O : List Ob} {rs F Wt : List Int} {n : Int} {i : Nat} {o : Ob} (U : ∀ (j : Nat) (p : Ob), O[j]? = some p → p.live = true → p.num = n → p = o) (S : Srch O rs F Wt (some (n, o.kind :: o.sl))) : Srch O rs F Wt none := by
  refine ⟨S.nd, S.fr, S.wr, S.root, fun m hm j p h1 h2 h3 w hw he hl => ?_⟩
  have c := S.clos m hm j p h1 h2 h3
  by_cases e : m = n
  · simp only [if_pos e] at c
    have := U j p h1 h2 (h3.trans e)
    subst this
    exact c w hw he hl
  · simp only [if_neg e] at c
    exact c w hw he hl
/-- all words at once -/
theorem Srch.words {O : List Ob} {rs F Wt : List Int} {n : Int} {i : Nat} {o : Ob} (S : Srch O rs F Wt (some (n, []))) (ho : O[i]? = some o) (hl : o.live = true) (hn : o.num = n) (hr : Reach O rs n) : Srch O rs F (Wt ++ refs (o.kind :: o.sl)) (some (n, o.kind :: o.sl)) := by
  have hh : ∀ x ∈ Wt ++ refs (o.kind :: o.sl), x ∈ Wt ∨ (Live O x → Reach O rs x) := fun x hx => by
    rcases List.mem_append.mp hx with hx | hx
    · exact Or.inl hx
    · obtain ⟨w, h1, h2, e⟩ := mem_refs.mp hx
      subst e
      exact Or.inr fun hl' => .step hr ho hl hn h1 h2 hl'
  refine ⟨S.nd, S.fr, fun m hm hl => ?_, fun w h4 h5 h6 => ?_, fun m hm j p h4 h5 h6 x hx he hlx => ?_⟩
  · rcases hh m hm with h | h
    · exact S.wr m h hl
    · exact h hl
  · exact (S.root w h4 h5 h6).imp id (List.mem_append_left _)
  · have c := S.clos m hm j p h4 h5 h6
    by_cases e : m = n
    · simp only [if_pos e] at hx
      exact Or.inr (List.mem_append_right _ (mem_refs.mpr ⟨x, hx, he, rfl⟩))
    · simp only [if_neg e] at hx c
      exact (c x hx he hlx).imp id (List.mem_append_left _)
/-- the dict of what is found -/
def dF (F : List Int) : List (Key × V) := F.map fun n => (.inl n, .bl true)
theorem dF_val (F : List Int) (m : Int) : valV (dF F) (.inl m) = if m ∈ F then some (.bl true) else none := by
  induction F with
  | nil => rfl
  | cons a r ih =>
    unfold dF at ih ⊢
    rw [List.map_cons]
    by_cases e : a = m
    · rw [valV_pos (p := (Sum.inl a, V.bl true)) (by rw [e]), if_pos (by rw [e]; exact List.mem_cons_self)]
    · rw [valV_neg (p := (Sum.inl a, V.bl true)) (fun z => e (Sum.inl.inj z)), ih]
      by_cases h : m ∈ r
      · rw [if_pos h, if_pos (List.mem_cons_of_mem _ h)]
      · rw [if_neg h, if_neg (fun z => (List.mem_cons.mp z).elim (fun z => e z.symm) h)]
theorem dF_put {F : List Int} {n : Int} (h : n ∉ F) : putK (dF F) (.inl n) (.bl true) = dF (F ++ [n]) := by
  rw [putK_new _ (by rw [dF_val, if_neg h])]
  unfold dF
  rw [List.map_append]
  rfl
/-- the size of the object of that number -/
def szf (O : List Ob) (n : Int) : Int := match O.find? fun o => o.live && decide (o.num = n) with
  | some o => 3 + (o.sl.length : Int)
  | none => 0
theorem szf_at {O : List Ob} {kvs : List (Key × V)} {least : Int} (G : Good O kvs least) {i : Nat} {o : Ob} (h : O[i]? = some o) (hl : o.live = true) : szf O o.num = 3 + (o.sl.length : Int) := by
  unfold szf
  cases e : O.find? fun p => p.live && decide (p.num = o.num) with
  | none =>
    have := List.find?_eq_none.mp e o (List.mem_of_getElem? h)
    simp [hl] at this
  | some p =>
    have h1 := List.find?_some e
    obtain ⟨j, hj⟩ := List.getElem?_of_mem (List.mem_of_find?_eq_some e)
    have h1 : p.live = true ∧ p.num = o.num := by simpa using h1
    have := G.un j i p o hj h h1.1 hl h1.2
    subst this
    rw [h] at hj
    cases hj
    rfl
theorem sum_perm {l m : List Int} (h : l.Perm m) : l.sum = m.sum := by
  induction h with
  | nil => rfl
  | cons x _ ih => rw [List.sum_cons, List.sum_cons, ih]
  | swap x y l => simp only [List.sum_cons]; omega
  | trans _ _ h1 h2 => rw [h1, h2]
theorem sorted_eq {l m : List Int} (h : l.Perm m) (hl : l.Pairwise (· ≤ ·)) (hm : m.Pairwise (· ≤ ·)) : l = m :=
  List.Perm.eq_of_pairwise (fun a b _ _ h1 h2 => Int.le_antisymm h1 h2) hl hm h
theorem perm_of {l m : List Int} (h1 : l.Nodup) (h2 : m.Nodup) (h : ∀ n, n ∈ l ↔ n ∈ m) : l.Perm m := (List.perm_ext_iff_of_nodup h1 h2).mpr h

end LX
namespace LX
open PySem PySem.Spec PyProof.Rows L2 NdefX
section
variable {P : Program} {w : World} {K : PySem.W.Frag} {mg : Str → Option Value} {base : Heap}
theorem iteNE {l : List V} {A B : Prop} (h : l ≠ []) (a : A) : if (!l.isEmpty) = true then A else B := by
  cases l with
  | nil => exact absurd rfl h
  | cons => exact iteT a
def sp_reached : Addr → Sp := fun C vs H Q _ => ∃ st dx wl pl room entries least O kvs ra, ∃ rs : List Int, vs = [.ref st, .ref ra] ∧ StoreAt H C st dx wl pl room entries least (flat O) kvs ∧ Good O kvs least ∧ (∀ o ∈ O, o.sl.length ≤ 39) ∧ O.length ≤ 80 ∧ IsI H ra rs ∧ rs.length ≤ 65 ∧
  ∀ D F H', H D = none → H' D = some (.dK (dF F)) → F.Nodup → (∀ n, n ∈ F ↔ Reach O rs n) → Fr [] H H' → Q (.ref D) H'
theorem ok_reached (W : WT P K mg base) : FnOk P w K mg base CX0 3 W.f_reached W.fd_reached ["store", "roots"] (sp_reached W.c_Store) := by
  refine W.F_reached.ok sc_reached (fun vs H Q E h => ?_) (fun cdv Ar outer s H vs Q E hr h => ?_)
  · obtain ⟨st, dx, wl, pl, room, entries, least, O, kvs, ra, rs, rfl, _⟩ := h
    rfl
  · obtain ⟨st, dx, wl, pl, room, entries, least, O, kvs, ra, rs, rfl, S, G, sz, hO, hra, hrs, k⟩ := h
    have hu1 := hu_of hr
    have hu64 := hu64_of hr
    refine ⟨_, (pss_cons (ps_set (i := 2) sc_reached.nd rfl (by first | exact Or.inl rfl | exact Or.inr rfl) pe_dnewK)
      (pss_cons (ps_setLc (i := 3) (own := [("word", 4)]) (g := gName 4)  rfl sc_reached.nd rfl rfl (sw_true rfl rfl rfl (by decide +kernel)) (pi_list (pv 1)) (blkOk_by (N := N_reached) (sc := defScope s_reached) (by first | decide +kernel | rfl)) (fun _ _ _ _ _ => (pg_name (i := 4) sc_reached.nd rfl (by first | exact Or.inl rfl | exact Or.inr rfl))) (fun _ _ _ _ _ => pts_one (pt_truthK (K := K) rfl (pe_call (ok_is_ref W) (hr.mono (by decide)) rfl W.g_is_ref W.F_is_ref.kp W.b_is_ref .nil pass0 (pa_cons (pv 4) pa_nil)) (by intro _; rfl))) (fun _ _ _ _ _ => (pe_call (ok_ref_of W) (hr.mono (by decide)) rfl W.g_ref_of W.F_ref_of.kp W.b_ref_of .nil pass0 (pa_cons (pv 4) pa_nil))))
      (pss_cons (ps_while PassesOwn.never (pt_truth (pv 3) (by intro _; rfl)) (pss_cons (ps_set (i := 5) sc_reached.nd rfl (by first | exact Or.inl rfl | exact Or.inr rfl) (pe_bm0 PySem.F.plainAttrs_list PySem.F.slot_list_pop PySem.F.type_list_pop mt_pop (pv 3) ))
      (pss_one (ps_if (PW.pt (pw_and (pt_cmpR (op_ninU hu1) (pv 5) (pv 2) (by first | exact nomark _ | rfl)) (pw_and1 (pt_truth (pe_meth (pv 0) W.C_Store W.m_Store_exists (ok_Store_exists W) (hr.mono (by decide)) W.b_Store_exists .nil pass0 (pa_cons (pv 5) pa_nil)) (by intro _; rfl))))) (pss_cons (ps_dput hu1 (pv 2) (pv 5) pe_bl rfl)
      (pss_one (ps_for PassesOwn.never rfl (pi_list (pe_op op_addU (pe_lst (pa_cons (pe_meth (pv 0) W.C_Store W.m_Store_kind (ok_Store_kind W) (hr.mono (by decide)) W.b_Store_kind .nil pass0 (pa_cons (pv 5) pa_nil)) pa_nil)) (pe_meth (pv 0) W.C_Store W.m_Store_slots (ok_Store_slots W) (hr.mono (by decide)) W.b_Store_slots .nil pass0 (pa_cons (pv 5) pa_nil)))) (pg_name (i := 4) sc_reached.nd rfl (by first | exact Or.inl rfl | exact Or.inr rfl)) (pss_one (ps_if (PW.pt (pw_and (pt_truth (pe_call (ok_is_ref W) (hr.mono (by decide)) rfl W.g_is_ref W.F_is_ref.kp W.b_is_ref .nil pass0 (pa_cons (pv 4) pa_nil)) (by intro _; rfl)) (pw_and1 (pt_cmpR (op_ninU hu1) (pe_call (ok_ref_of W) (hr.mono (by decide)) rfl W.g_ref_of W.F_ref_of.kp W.b_ref_of .nil pass0 (pa_cons (pv 4) pa_nil)) (pv 2) (by first | exact nomark _ | rfl))))) (pss_one (ps_expr (pe_bm PySem.F.plainAttrs_list PySem.F.slot_list_append PySem.F.type_list_append mt_append (pv 3) (pa_cons (pe_call (ok_ref_of W) (hr.mono (by decide)) rfl W.g_ref_of W.F_ref_of.kp W.b_ref_of .nil pass0 (pa_cons (pv 4) pa_nil)) pa_nil)))) pss_nil))))) pss_nil))))
      (pss_one (ps_ret (pv 2)))))), ?_⟩
    intro D hD
    have hra1 := Fr.new (F := []) (o := .dK []) hD ra _ hra (by simp)
    refine ⟨_, rfl, ra, rfl, ⟨_, SqL.of hra1⟩, fun wA hwA => ?_⟩
    have f1 : Fr [] H (upd H D (.dK [])) := Fr.new hD
    have hD1 : upd H D (.dK []) D = some (.dK []) := upd_same
    have hwA0 : H wA = none := by
      by_cases e : wA = D
      · rw [e]; exact hD
      · rw [upd_ne e] at hwA; exact hwA
    generalize upd H D (.dK []) = H1 at f1 hD1 hra1 hwA
    refine lc_list (K := K) (a := ra) (xs := rs.map V.int) (fun i H' => H' = upd H1 wA (.lst ((refs (rs.take i)).map V.int))) rfl (fun i H' _ e => ?_) (fun i x H' hx e => ?_) (fun H' e => ?_)
    · subst e
      exact SqL.of (Fr.new (F := []) (o := .lst ((refs (rs.take i)).map V.int)) hwA ra _ hra1 (by simp))
    · subst e
      rw [List.getElem?_map] at hx
      obtain ⟨n, hn, rfl⟩ := Option.map_eq_some_iff.mp hx
      have hlen : (refs (rs.take i)).length ≤ 65 := by
        have := refs_len (rs.take i)
        rw [List.length_take] at this
        omega
      refine ⟨rfl, ?_⟩
      refine ⟨_, rfl, n, rfl, ?_⟩
      refine ⟨_, rfl, ?_⟩
      refine iteD (fun he => ?_) (fun he => ?_)
      · refine ⟨_, rfl, n, rfl, he, ?_⟩
        refine ⟨_, upd_same, by rw [List.length_map, sizeLine_eq]; omega, ?_⟩
        rw [upd_upd, refs_take_yes hn he, List.map_append]; rfl
      · rw [refs_take_no hn he]
    · subst e
      rw [List.length_map, List.take_length]
      have hw2 : upd H1 wA (.lst ((refs rs).map V.int)) wA = some (.lst ((refs rs).map V.int)) := upd_same
      have f2 : Fr [] H1 (upd H1 wA (.lst ((refs rs).map V.int))) := Fr.new hwA
      have hD2 := f2 D _ hD1 (by simp)
      have f2 := f1.trans f2
      generalize upd H1 wA (.lst ((refs rs).map V.int)) = H2 at f2 hw2 hD2
      refine ⟨fun m σ H' => ∃ (F Wt : List Int) (v4 v5 : Option V), σ = [some (.ref st), some (.ref ra), some (.ref D), some (.ref wA), v4, v5] ∧ H' D = some (.dK (dF F)) ∧ H' wA = some (.lst (Wt.map V.int)) ∧ Fr [] H H' ∧ Srch O rs F Wt none ∧ m = (O.length - F.length) * 42 + Wt.length ∧ m ≤ 5000,
        ⟨_, [], refs rs, _, _, rfl, hD2, hw2, f2, Srch.start O rs, rfl, by have := refs_len rs; simp only [List.length_nil]; omega⟩, ?_⟩
      rintro m σ H3 ⟨F, Wt, v4, v5, rfl, hD3, hw3, f3, sr, rfl, hm⟩
      have S3 := S.keep f3 (by simp)
      refine ⟨_, rfl, _, Or.inl ⟨_, SqL.of hw3, rfl⟩, ?_⟩
      cases hW : Wt with
      | nil =>
        subst hW
        refine iteF ?_
        exact ⟨_, rfl, k D F H3 hD hD3 sr.nd sr.done f3⟩
      | cons y0 ys0 =>
        have hlast : ∃ n, Wt[Wt.length - 1]? = some n := ⟨_, List.getElem?_eq_getElem (by rw [hW]; simp)⟩
        rw [← hW]
        obtain ⟨n, hn⟩ := hlast
        have hne : Wt ≠ [] := by rw [hW]; simp
        have hdl := drop_last hn
        generalize hWt' : Wt.dropLast = Wt' at hdl
        have hl : Wt.length = Wt'.length + 1 := by rw [hdl, List.length_append]; rfl
        refine iteNE (by rw [hW]; simp) ?_
        refine ⟨_, fun _ _ z => z, ?_⟩
        refine ⟨_, rfl, Or.inl ⟨rfl, _, SqL.of hw3⟩, ?_⟩
        refine ⟨wA, _, .int n, rfl, rfl, hw3, by rw [List.length_map]; exact int_at hn, ?_⟩
        rw [← List.map_dropLast, hWt']
        have nDw : D ≠ wA := ne_of hD3 hw3 (by intro z; cases z)
        have hw4 : upd H3 wA (.lst (Wt'.map V.int)) wA = some (.lst (Wt'.map V.int)) := upd_same
        have hD4 : upd H3 wA (.lst (Wt'.map V.int)) D = some (.dK (dF F)) := by rw [upd_ne nDw]; exact hD3
        have f4 : Fr [] H (upd H3 wA (.lst (Wt'.map V.int))) := f3.skip hwA0
        generalize upd H3 wA (.lst (Wt'.map V.int)) = H4 at hw4 hD4 f4
        have S4 := S.keep f4 (by simp)
        rw [hdl] at sr
        refine ⟨_, rfl, _, rfl, Or.inr ⟨_, DGet.k (k := Sum.inl n) hD4, ?_⟩⟩
        rw [dF_val]
        refine ⟨_, rfl, ?_⟩
        have stop : n ∈ F ∨ ¬ Live O n → ∃ m', m' < (O.length - F.length) * 42 + Wt.length ∧ ∃ (F' Wt2 : List Int) (v4' v5' : Option V), [some (V.ref st), some (.ref ra), some (.ref D), some (.ref wA), v4, some (.int n)] = [some (V.ref st), some (.ref ra), some (.ref D), some (.ref wA), v4', v5'] ∧ H4 D = some (.dK (dF F')) ∧ H4 wA = some (.lst (Wt2.map V.int)) ∧ Fr [] H H4 ∧ Srch O rs F' Wt2 none ∧ m' = (O.length - F'.length) * 42 + Wt2.length ∧ m' ≤ 5000 := fun h =>
          ⟨(O.length - F.length) * 42 + Wt'.length, by omega, F, Wt', _, _, rfl, hD4, hw4, f4, sr.pop h, rfl, by omega⟩
        by_cases hF : n ∈ F
        · rw [if_pos hF]
          exact iteF (stop (Or.inl hF))
        rw [if_neg hF]
        refine iteT ?_
        refine ⟨_, rfl, st, dx, _, rfl, S4.st, rfl, ?_⟩
        refine ⟨_, rfl, ?_⟩
        refine ⟨st, dx, wl, pl, room, entries, least, _, kvs, n, rfl, S4, ?_⟩
        refine ⟨_, rfl, ?_⟩
        by_cases hv : (valV kvs (.inl n)).isSome = true
        · rw [hv]
          refine iteT ?_
          have hlv := (G.iff n).mp hv
          obtain ⟨i, o, ho, hlo, hon⟩ := hlv
          subst hon
          have hlv := (G.iff o.num).mp hv
          have so := sz o (List.mem_of_getElem? ho)
          have sr2 := sr.find hF hlv
          have hFl : F.length + 1 ≤ O.length := by
            have := live_len sr2.nd fun m hm => (sr2.fr m hm).live
            rw [List.length_append] at this
            exact this
          refine ⟨_, rfl, _, rfl, D, _, rfl, DPut.k (k := Sum.inl o.num) hD4 (by unfold dF; rw [List.length_map, sizeLine_eq]; omega), ?_⟩
          rw [dF_put hF]
          have hD5 : upd H4 D (.dK (dF (F ++ [o.num]))) D = some (.dK (dF (F ++ [o.num]))) := upd_same
          have hw5 : upd H4 D (.dK (dF (F ++ [o.num]))) wA = some (.lst (Wt'.map V.int)) := by rw [upd_ne nDw.symm]; exact hw4
          have f5 : Fr [] H (upd H4 D (.dK (dF (F ++ [o.num])))) := f4.skip hD
          generalize upd H4 D (.dK (dF (F ++ [o.num]))) = H5 at hD5 hw5 f5
          have S5 := S.keep f5 (by simp)
          refine ⟨_, rfl, st, dx, _, rfl, S5.st, rfl, ?_⟩
          refine ⟨_, rfl, ?_⟩
          refine ⟨st, dx, wl, pl, room, entries, least, _, kvs, o.num, off O i, o.kind, rfl, S5, G.at ho hlo, flat_kind ho, ?_⟩
          refine ⟨(by show 1 ≤ sizeLine; decide), fun l1 h1 => ?_⟩
          have g6 : Fr [] H5 (upd H5 l1 (.lst [V.int o.kind])) := Fr.new h1
          have hl1 : upd H5 l1 (.lst [V.int o.kind]) l1 = some (.lst [V.int o.kind]) := upd_same
          generalize upd H5 l1 (.lst [V.int o.kind]) = H6 at g6 hl1
          have f6 := f5.trans g6
          have S6 := S.keep f6 (by simp)
          refine ⟨_, rfl, st, dx, _, rfl, S6.st, rfl, ?_⟩
          refine ⟨_, rfl, ?_⟩
          refine ⟨st, dx, wl, pl, room, entries, least, _, kvs, o.num, off O i, o.sl.length, rfl, S6, G.at ho hlo, flat_size ho, off_lt ho, fun l2 h2 => ?_⟩
          rw [flat_slots ho]
          have g7 : Fr [] H6 (upd H6 l2 (.lst (o.sl.map V.int))) := Fr.new h2
          have hl2 : upd H6 l2 (.lst (o.sl.map V.int)) l2 = some (.lst (o.sl.map V.int)) := upd_same
          have hl1' := g7 _ _ hl1 (by simp)
          show rAddU K _ _ (upd H6 l2 (.lst (o.sl.map V.int))) _
          generalize upd H6 l2 (.lst (o.sl.map V.int)) = H7 at g7 hl2 hl1'
          have f7 := f6.trans g7
          refine Or.inl ⟨l1, l2, _, _, rfl, rfl, hl1', hl2, by rw [List.length_map, sizeLine_eq]; show 1 + o.sl.length ≤ _; omega, fun l3 h3 => ?_⟩
          have e3 : [V.int o.kind] ++ o.sl.map V.int = (o.kind :: o.sl).map V.int := rfl
          rw [e3]
          have g8 : Fr [] H7 (upd H7 l3 (.lst ((o.kind :: o.sl).map V.int))) := Fr.new h3
          have hl3 : upd H7 l3 (.lst ((o.kind :: o.sl).map V.int)) l3 = some (.lst ((o.kind :: o.sl).map V.int)) := upd_same
          have n3 : l3 ≠ wA := (ne_of_none (g7 _ _ (g6 _ _ hw5 (by simp)) (by simp)) h3).symm
          have hD8 := g8 _ _ (g7 _ _ (g6 _ _ hD5 (by simp)) (by simp)) (by simp)
          have hw8 := g8 _ _ (g7 _ _ (g6 _ _ hw5 (by simp)) (by simp)) (by simp)
          have f8 := f7.trans g8
          generalize upd H7 l3 (.lst ((o.kind :: o.sl).map V.int)) = H8 at g8 hl3 hD8 hw8 f8
          refine ⟨l3, rfl, ⟨_, SqL.of hl3⟩, ?_⟩
          refine for_list (K := K) (a := l3) (xs := (o.kind :: o.sl).map V.int) (fun j σ H' => ∃ (Wt2 : List Int) (v4 : Option V), σ = [some (.ref st), some (.ref ra), some (.ref D), some (.ref wA), v4, some (.int o.num)] ∧ H' D = some (.dK (dF (F ++ [o.num]))) ∧ H' wA = some (.lst (Wt2.map V.int)) ∧ H' l3 = some (.lst ((o.kind :: o.sl).map V.int)) ∧ Fr [] H H' ∧ Srch O rs (F ++ [o.num]) Wt2 (some (o.num, (o.kind :: o.sl).take j)) ∧ Wt2.length ≤ Wt'.length + j)
            ⟨Wt', _, rfl, hD8, hw8, hl3, f8, sr2, by omega⟩ (fun j σ H9 _ hI => ?_) (fun j x σ H9 hx hI => ?_) (fun σ H9 hI => ?_)
          · obtain ⟨Wt2, v4', rfl, a1, a2, a3, a4, a5, a6⟩ := hI
            exact SqL.of a3
          · obtain ⟨Wt2, v4', rfl, a1, a2, a3, a4, a5, a6⟩ := hI
            rw [List.getElem?_map] at hx
            obtain ⟨y, hy, rfl⟩ := Option.map_eq_some_iff.mp hx
            have hj : j < (o.kind :: o.sl).length := (List.getElem?_eq_some_iff.mp hy).1
            rw [List.length_cons] at hj
            have htk : (o.kind :: o.sl).take (j + 1) = (o.kind :: o.sl).take j ++ [y] := by rw [List.take_succ, hy]; rfl
            have hmem : y ∈ o.kind :: o.sl := List.mem_of_getElem? hy
            refine ⟨_, rfl, y, rfl, ?_⟩
            refine ⟨_, rfl, ?_⟩
            refine iteD (fun he => ?_) (fun he => ?_)
            · refine ⟨_, rfl, y, rfl, he, ?_⟩
              refine ⟨_, rfl, Or.inr ⟨_, DGet.k (k := Sum.inl (y / 2)) a1, ?_⟩⟩
              rw [dF_val]
              refine ⟨_, rfl, ?_⟩
              by_cases hy2 : y / 2 ∈ F ++ [o.num]
              · rw [if_pos hy2]
                refine iteF ⟨Wt2, _, rfl, a1, a2, a3, a4, ?_, by omega⟩
                rw [htk]
                exact a5.word (fun x h => h) (fun x h => Or.inl h) fun _ _ => Or.inl hy2
              · rw [if_neg hy2]
                refine iteT ?_
                refine ⟨_, rfl, Or.inl ⟨rfl, _, SqL.of a2⟩, ?_⟩
                refine ⟨_, rfl, y, rfl, he, ?_⟩
                refine ⟨wA, _, _, rfl, rfl, a2, by rw [List.length_map, sizeLine_eq]; omega, ?_⟩
                have e4 : Wt2.map V.int ++ [V.int (y / 2)] = (Wt2 ++ [y / 2]).map V.int := by rw [List.map_append]; rfl
                rw [e4]
                refine ⟨Wt2 ++ [y / 2], _, rfl, by rw [upd_ne nDw]; exact a1, upd_same, by rw [upd_ne n3]; exact a3, a4.skip hwA0, ?_, by rw [List.length_append]; show Wt2.length + 1 ≤ _; omega⟩
                rw [htk]
                refine a5.word (fun x h => List.mem_append_left _ h) (fun x h => ?_) fun _ _ => Or.inr (List.mem_append_right _ (by simp))
                rcases List.mem_append.mp h with h | h
                · exact Or.inl h
                · have e : x = y / 2 := by simpa using h
                  rw [e]
                  exact Or.inr fun hl => .step (sr2.fr o.num (List.mem_append_right _ (by simp))) ho hlo rfl hmem he hl
            · refine ⟨Wt2, _, rfl, a1, a2, a3, a4, ?_, by omega⟩
              rw [htk]
              exact a5.word (fun x h => h) (fun x h => Or.inl h) fun h _ => absurd h he
          · obtain ⟨Wt2, v4', rfl, a1, a2, a3, a4, a5, a6⟩ := hI
            rw [List.length_map, List.take_length] at a5
            rw [List.length_map, List.length_cons] at a6
            refine ⟨(O.length - (F ++ [o.num]).length) * 42 + Wt2.length, ?_, F ++ [o.num], Wt2, _, _, rfl, a1, a2, a4, a5.all (i := i) (fun j p h1 h2 h3 => ?_), rfl, ?_⟩
            · rw [List.length_append]; show (O.length - (F.length + 1)) * 42 + _ < _; omega
            · have := G.un j i p o h1 ho h2 hlo h3
              subst this
              rw [ho] at h1; cases h1; rfl
            · rw [List.length_append]; show (O.length - (F.length + 1)) * 42 + _ ≤ _; omega
        · have hv' : (valV kvs (.inl n)).isSome = false := by simpa using hv
          rw [hv']
          exact iteF (stop (Or.inr fun h => hv ((G.iff n).mpr h)))
end

end LX
namespace LX
open PySem PySem.Spec PyProof.Rows L2 NdefX
/-! ### closing up, plainly -/
def lvF : Nat → List Ob → List (Ob × Nat)
  | _, [] => []
  | p, a :: r => if a.live = true then (a, p) :: lvF (p + (fl a).length) r else lvF (p + (fl a).length) r
theorem lvF_cons (p : Nat) (a : Ob) (r : List Ob) : lvF p (a :: r) = if a.live = true then (a, p) :: lvF (p + (fl a).length) r else lvF (p + (fl a).length) r := rfl
theorem lvF_ob : ∀ (p : Nat) (O : List Ob), (lvF p O).map (·.1) = O.filter (·.live)
  | _, [] => rfl
  | p, a :: r => by
    have ih := lvF_ob (p + (fl a).length) r
    rw [lvF_cons]
    by_cases h : a.live = true
    · rw [if_pos h, List.map_cons, ih, List.filter_cons_of_pos (by exact h)]
    · rw [if_neg h, ih, List.filter_cons_of_neg (by exact h)]
theorem off_cons (a : Ob) (r : List Ob) (i : Nat) : off (a :: r) (i + 1) = (fl a).length + off r i := by
  unfold off
  rw [List.take_succ_cons, flat_cons, List.length_append]
theorem lvF_mem : ∀ (p : Nat) (O : List Ob) (z : Ob × Nat), z ∈ lvF p O ↔ ∃ i : Nat, O[i]? = some z.1 ∧ z.1.live = true ∧ z.2 = p + off O i
  | p, [], z => by simp [lvF]
  | p, a :: r, z => by
    have ih := lvF_mem (p + (fl a).length) r z
    have tail : (∃ i : Nat, r[i]? = some z.1 ∧ z.1.live = true ∧ z.2 = p + (fl a).length + off r i) ↔ ∃ i : Nat, (a :: r)[i + 1]? = some z.1 ∧ z.1.live = true ∧ z.2 = p + off (a :: r) (i + 1) := by
      constructor
      · rintro ⟨i, h1, h2, h3⟩
        exact ⟨i, h1, h2, by rw [off_cons, h3]; omega⟩
      · rintro ⟨i, h1, h2, h3⟩
        exact ⟨i, h1, h2, by rw [h3, off_cons]; omega⟩
    have all : (∃ i : Nat, (a :: r)[i]? = some z.1 ∧ z.1.live = true ∧ z.2 = p + off (a :: r) i) ↔ (a = z.1 ∧ z.1.live = true ∧ z.2 = p) ∨ ∃ i : Nat, (a :: r)[i + 1]? = some z.1 ∧ z.1.live = true ∧ z.2 = p + off (a :: r) (i + 1) := by
      constructor
      · rintro ⟨i, h1, h2, h3⟩
        cases i with
        | zero => exact Or.inl ⟨Option.some.inj h1, h2, by rw [h3]; rfl⟩
        | succ i => exact Or.inr ⟨i, h1, h2, h3⟩
      · rintro (⟨h1, h2, h3⟩ | ⟨i, h1, h2, h3⟩)
        · exact ⟨0, congrArg some h1, h2, by rw [h3]; rfl⟩
        · exact ⟨i + 1, h1, h2, h3⟩
    rw [all, ← tail, ← ih]
    rw [lvF_cons]
    by_cases h : a.live = true
    · rw [if_pos h, List.mem_cons]
      constructor
      · rintro (e | e)
        · subst e; exact Or.inl ⟨rfl, h, rfl⟩
        · exact Or.inr e
      · rintro (⟨h1, h2, h3⟩ | e)
        · left
          obtain ⟨z1, z2⟩ := z
          have h1 : a = z1 := h1
          have h3 : z2 = p := h3
          rw [h1, h3]
        · exact Or.inr e
    · rw [if_neg h]
      constructor
      · exact Or.inr
      · rintro (⟨h1, h2, h3⟩ | e)
        · rw [h1] at h; exact absurd h2 h
        · exact e
theorem lvF_lt : ∀ (p : Nat) (O : List Ob), (lvF p O).Pairwise (fun x y => x.2 < y.2) ∧ ∀ z ∈ lvF p O, p ≤ z.2
  | _, [] => ⟨List.Pairwise.nil, fun z h => by simp [lvF] at h⟩
  | p, a :: r => by
    obtain ⟨h1, h2⟩ := lvF_lt (p + (fl a).length) r
    have hl := fl_len a
    rw [lvF_cons]
    by_cases h : a.live = true
    · rw [if_pos h]
      refine ⟨List.pairwise_cons.mpr ⟨fun z hz => ?_, h1⟩, fun z hz => ?_⟩
      · have := h2 z hz
        show p < z.2
        omega
      · rcases List.mem_cons.mp hz with e | hz
        · rw [e]; exact Nat.le_refl _
        · have := h2 z hz
          omega
    · rw [if_neg h]
      exact ⟨h1, fun z hz => by have := h2 z hz; omega⟩
theorem lvF_app : ∀ (p : Nat) (A B : List Ob), lvF p (A ++ B) = lvF p A ++ lvF (p + (flat A).length) B
  | p, [], B => by simp [lvF, flat]
  | p, a :: r, B => by
    have ih := lvF_app (p + (fl a).length) r B
    rw [List.cons_append, lvF_cons, lvF_cons, ih, flat_cons, List.length_append, Nat.add_assoc]
    split <;> rfl
def tbl (O : List Ob) : List (Int × Int) := (lvF 0 O).map fun z => (z.1.num, (z.2 : Int))
theorem tbl_fst (O : List Ob) : (tbl O).map (·.1) = (O.filter (·.live)).map (·.num) := by
  unfold tbl
  rw [← lvF_ob 0 O, List.map_map, List.map_map]; rfl
theorem tbl_mem (O : List Ob) (n p : Int) : (n, p) ∈ tbl O ↔ ∃ (i : Nat) (o : Ob), O[i]? = some o ∧ o.live = true ∧ n = o.num ∧ p = (off O i : Nat) := by
  unfold tbl
  constructor
  · intro h
    obtain ⟨z, hz, e⟩ := List.mem_map.mp h
    obtain ⟨i, h1, h2, h3⟩ := (lvF_mem 0 O z).mp hz
    cases e
    exact ⟨i, z.1, h1, h2, rfl, by rw [h3, Nat.zero_add]⟩
  · rintro ⟨i, o, h1, h2, rfl, rfl⟩
    exact List.mem_map.mpr ⟨(o, off O i), (lvF_mem 0 O _).mpr ⟨i, h1, h2, by rw [Nat.zero_add]⟩, rfl⟩
theorem tbl_lt (O : List Ob) : (tbl O).Pairwise (fun x y => x.2 < y.2) := by
  unfold tbl
  exact List.pairwise_map.mpr ((lvF_lt 0 O).1.imp fun h => by show ((_ : Nat) : Int) < ((_ : Nat) : Int); omega)
theorem tbl_snoc (A : List Ob) (a : Ob) (h : a.live = true) : tbl (A ++ [a]) = tbl A ++ [(a.num, ((flat A).length : Int))] := by
  unfold tbl
  rw [lvF_app, List.map_append]
  congr 1
  show (lvF (0 + (flat A).length) [a]).map _ = _
  rw [lvF_cons, if_pos h, Nat.zero_add]
  rfl
theorem pw_inj {l : List (Int × Int)} (h : l.Pairwise (fun x y => x.2 < y.2)) {a b : Int × Int} (ha : a ∈ l) (hb : b ∈ l) (e : a.2 = b.2) : a = b := by
  induction l with
  | nil => simp at ha
  | cons x r ih =>
    obtain ⟨h1, h2⟩ := List.pairwise_cons.mp h
    rcases List.mem_cons.mp ha with ea | ea <;> rcases List.mem_cons.mp hb with eb | eb
    · rw [ea, eb]
    · have := h1 b eb; rw [← ea] at this; omega
    · have := h1 a ea; rw [← eb] at this; omega
    · exact ih h2 ea eb
theorem by_place {O : List Ob} {ys : List (Int × Int)} (h : ys.Perm (tbl O)) (hp : ys.Pairwise (fun x y => x.2 ≤ y.2)) : ys = tbl O :=
  List.Perm.eq_of_pairwise (le := fun x y : Int × Int => x.2 ≤ y.2) (fun a b ha hb h1 h2 => pw_inj (tbl_lt O) (h.mem_iff.mp ha) hb (by omega)) hp ((tbl_lt O).imp fun h => by omega) h
theorem mem_valV {κ : Type} [DecidableEq κ] {kvs : List (κ × V)} {k : κ} {v : V} (nd : (kvs.map (·.1)).Nodup) (h : (k, v) ∈ kvs) : valV kvs k = some v := by
  induction kvs with
  | nil => simp at h
  | cons p r ih =>
    obtain ⟨h1, h2⟩ := List.nodup_cons.mp nd
    rcases List.mem_cons.mp h with e | e
    · subst e; exact valV_pos rfl
    · rw [valV_neg (fun z => h1 (by show p.1 ∈ _; rw [z]; exact List.mem_map.mpr ⟨_, e, rfl⟩))]
      exact ih h2 e
theorem pD_of {l : List (Key × V)} (h : ∀ p ∈ l, ∃ n i : Int, p = (.inl n, .int i)) : ∃ ps, l = pD ps := by
  induction l with
  | nil => exact ⟨[], rfl⟩
  | cons a r ih =>
    obtain ⟨n, i, e⟩ := h a List.mem_cons_self
    obtain ⟨ps, e2⟩ := ih fun p hp => h p (List.mem_cons_of_mem _ hp)
    exact ⟨(n, i) :: ps, by rw [e, e2]; rfl⟩
theorem pD_keys (ps : List (Int × Int)) : (pD ps).map (·.1) = (ps.map (·.1)).map Sum.inl := by unfold pD; rw [List.map_map, List.map_map]; rfl
theorem pD_nd {ps : List (Int × Int)} : ((pD ps).map (·.1)).Nodup ↔ (ps.map (·.1)).Nodup := by
  rw [pD_keys]
  constructor
  · exact fun h => (List.pairwise_map.mp h).imp fun h e => h (by rw [e])
  · exact fun h => List.pairwise_map.mpr (h.imp fun h e => h (Sum.inl.inj e))
theorem pD_iff {ps : List (Int × Int)} (nd : (ps.map (·.1)).Nodup) (k : Key) (v : V) : valV (pD ps) k = some v ↔ ∃ n i : Int, (n, i) ∈ ps ∧ k = .inl n ∧ v = .int i := by
  constructor
  · intro h
    obtain ⟨p, hp, e⟩ := List.mem_map.mp (show (k, v) ∈ ps.map _ from val_mem h)
    cases e
    exact ⟨p.1, p.2, hp, rfl, rfl⟩
  · rintro ⟨n, i, h, rfl, rfl⟩
    exact pD_val nd h
theorem Good.pairs {O : List Ob} {kvs : List (Key × V)} {least : Int} (G : Good O kvs least) : ∃ ps, kvs = pD ps ∧ (ps.map (·.1)).Nodup ∧ ps.Perm (tbl O) := by
  obtain ⟨ps, rfl⟩ := pD_of (l := kvs) fun p hp => by
    obtain ⟨i, o, h1, h2, h3, h4⟩ := (G.val p.1 p.2).mp (mem_valV G.nd hp)
    exact ⟨o.num, (off O i : Nat), by rw [← h3, ← h4]⟩
  have nd := pD_nd.mp G.nd
  refine ⟨ps, rfl, nd, ?_⟩
  have n1 : ps.Nodup := (List.pairwise_map.mp nd).imp fun h e => h (by rw [e])
  have n2 : (tbl O).Nodup := (tbl_lt O).imp fun h e => by rw [e] at h; omega
  refine (List.perm_ext_iff_of_nodup n1 n2).mpr fun z => ?_
  obtain ⟨n, p⟩ := z
  rw [tbl_mem]
  constructor
  · intro h
    obtain ⟨i, o, h1, h2, h3, h4⟩ := (G.val _ _).mp (pD_val nd h)
    exact ⟨i, o, h1, h2, Sum.inl.inj h3, V.int.inj h4⟩
  · rintro ⟨i, o, h1, h2, rfl, rfl⟩
    obtain ⟨n, i, h, e1, e2⟩ := (pD_iff nd _ _).mp (G.at h1 h2)
    cases e1
    cases e2
    exact h
theorem Good.nums {O : List Ob} {kvs : List (Key × V)} {least : Int} (G : Good O kvs least) : ((O.filter (·.live)).map (·.num)).Nodup := by
  obtain ⟨ms, m1, m2⟩ := G.ints
  have ndm : ms.Nodup := by
    have := G.nd
    rw [m1] at this
    exact (List.pairwise_map.mp this).imp fun h e => h (by rw [e])
  exact m2.nodup_iff.mp ndm
theorem all_live {O : List Ob} : ∀ o ∈ O.filter (·.live), o.live = true := fun o ho => (List.mem_filter.mp ho).2
theorem Good.close {O : List Ob} {kvs : List (Key × V)} {least : Int} (G : Good O kvs least) : Good (O.filter (·.live)) (pD (tbl (O.filter (·.live)))) least := by
  have e1 : (tbl (O.filter (·.live))).map (·.1) = (O.filter (·.live)).map (·.num) := by rw [tbl_fst, List.filter_filter]; simp
  have nd : ((tbl (O.filter (·.live))).map (·.1)).Nodup := by rw [e1]; exact G.nums
  refine ⟨fun k v => ?_, pD_nd.mpr nd, fun i j o p hi hj _ _ e => ?_, G.seen.1, fun n h0 h1 => ?_⟩
  · rw [pD_iff nd]
    constructor
    · rintro ⟨n, i, h, rfl, rfl⟩
      obtain ⟨j, o, h1, h2, rfl, rfl⟩ := (tbl_mem _ _ _).mp h
      exact ⟨j, o, h1, h2, rfl, rfl⟩
    · rintro ⟨j, o, h1, h2, rfl, rfl⟩
      exact ⟨_, _, (tbl_mem _ _ _).mpr ⟨j, o, h1, h2, rfl, rfl⟩, rfl, rfl⟩
  · have hl := (List.getElem?_eq_some_iff.mp hi).1
    refine (List.getElem?_inj (l := (O.filter (·.live)).map (·.num)) (by rw [List.length_map]; exact hl) G.nums).mp ?_
    rw [List.getElem?_map, List.getElem?_map, hi, hj, Option.map_some, Option.map_some, e]
  · have := G.seen.2 n h0 h1
    obtain ⟨i, o, h2, h3, rfl⟩ := (G.iff n).mp this
    have hm : o ∈ O.filter (·.live) := List.mem_filter.mpr ⟨List.mem_of_getElem? h2, h3⟩
    obtain ⟨j, hj⟩ := List.getElem?_of_mem hm
    rw [(pD_iff nd _ _).mpr ⟨o.num, _, (tbl_mem _ _ _).mpr ⟨j, o, hj, h3, rfl, rfl⟩, rfl, rfl⟩]
    rfl
/-- one is dropped -/
theorem kill_filter {O : List Ob} {kvs : List (Key × V)} {least : Int} (G : Good O kvs least) {i : Nat} {o : Ob} (h : O[i]? = some o) (ho : o.live = true) : (O.set i { o with live := false }).filter (·.live) = (O.filter (·.live)).filter fun p => !decide (p.num = o.num) := by
  have hi := (List.getElem?_eq_some_iff.mp h).1
  have e : O = O.take i ++ o :: O.drop (i + 1) := split_at h
  rw [List.set_eq_take_append_cons_drop, if_pos hi]
  have key : ∀ j p, O[j]? = some p → j ≠ i → p.live = true → ¬ p.num = o.num := fun j p hj ne lp en => ne (G.un j i p o hj h lp ho en)
  have k1 : (O.take i).filter (·.live) = ((O.take i).filter (·.live)).filter fun p => !decide (p.num = o.num) := by
    refine (List.filter_eq_self.mpr fun p hp => ?_).symm
    obtain ⟨h1, h2⟩ := List.mem_filter.mp hp
    obtain ⟨j, hj⟩ := List.getElem?_of_mem h1
    rw [List.getElem?_take] at hj
    split at hj
    · simp [key j p hj (by omega) h2]
    · cases hj
  have k2 : (O.drop (i + 1)).filter (·.live) = ((O.drop (i + 1)).filter (·.live)).filter fun p => !decide (p.num = o.num) := by
    refine (List.filter_eq_self.mpr fun p hp => ?_).symm
    obtain ⟨h1, h2⟩ := List.mem_filter.mp hp
    obtain ⟨j, hj⟩ := List.getElem?_of_mem h1
    rw [List.getElem?_drop] at hj
    simp [key _ p hj (by omega) h2]
  conv => rhs; rw [e]
  rw [List.filter_append, List.filter_append, List.filter_append, List.filter_cons_of_neg (by simp), List.filter_cons_of_pos (by exact ho), List.filter_cons_of_neg (by simp), ← k1, ← k2]

end LX
namespace LX
open PySem PySem.Spec PyProof.Rows L2 NdefX
/-- every old thing outside of F is kept, but for tables -/
def FrN (F : List Addr) (H H' : Hp) : Prop := ∀ b o, H b = some o → b ∉ F → (∀ ps, o ≠ .tbl ps) → H' b = some o
theorem Fr.n {F : List Addr} {H H' : Hp} (f : Fr F H H') : FrN F H H' := fun b o e n _ => f b o e n
theorem FrN.trans {F : List Addr} {H H1 H2 : Hp} (a : FrN F H H1) (b : FrN F H1 H2) : FrN F H H2 := fun c o e n t => b c o (a c o e n t) n t
theorem FrN.mono {F G : List Addr} {H H' : Hp} (a : FrN F H H') (h : ∀ b, b ∈ F → b ∈ G) : FrN G H H' := fun c o e n t => a c o e (fun m => n (h c m)) t
theorem FrN.lst {F : List Addr} {H H' : Hp} (a : FrN F H H') {b : Addr} {xs : List V} (e : H b = some (.lst xs)) (n : b ∉ F) : H' b = some (.lst xs) := a b _ e n (by intro ps z; cases z)
theorem tab_out {F : List Addr} {H H' : Hp} {P : Addr} {q : Str} (t : LamX.TabS H P q) (f : Fr F H H') (hF : ∀ b ∈ F, ∃ o, H b = some o ∧ (∀ ps, o ≠ .tbl ps) ∧ (∀ φ, o ≠ .ext φ)) : LamX.TabS H' P q := by
  obtain ⟨ps, h1, h2, h3⟩ := t
  refine ⟨ps, f _ _ h1 fun hm => ?_, h2, fun pos cv hc => ?_⟩
  · obtain ⟨o, e, n, _⟩ := hF _ hm
    rw [h1] at e
    exact n ps (Option.some.inj e).symm
  · obtain ⟨c, e1, e2⟩ := h3 pos cv hc
    refine ⟨c, e1, f _ _ e2 fun hm => ?_⟩
    obtain ⟨o, e, _, n⟩ := hF _ hm
    rw [e2] at e
    exact n _ (Option.some.inj e).symm
theorem StoreAt.keepN {H H' : Hp} {C st dx wl pl : Addr} {room entries least : Int} {ws : List Int} {kvs : List (Key × V)} (S : StoreAt H C st dx wl pl room entries least ws kvs) (f : LamX.ExtN H H') : StoreAt H' C st dx wl pl room entries least ws kvs :=
  ⟨f _ _ S.st (by intro ps z; cases z), f _ _ S.wl (by intro ps z; cases z), f _ _ S.pl (by intro ps z; cases z)⟩
section
variable {P : Program} {w : World} {K : PySem.W.Frag} {mg : Str → Option Value} {base : Heap}
theorem seg_fl {O : List Ob} {i : Nat} {o : Ob} (h : O[i]? = some o) : seg (flat O) (off O i) (3 + o.sl.length) = fl o := by
  unfold seg
  rw [flat_split h]
  unfold off
  rw [List.drop_left, ← fl_len, List.take_left]
def sp_close (C PT : Addr) : Sp := fun vs H Q _ => ∃ st dx wl pl room entries least kvs O, vs = [.ref st] ∧ StoreAt H C st dx wl pl room entries least (flat O) kvs ∧ Good O kvs least ∧ (flat O).length ≤ 100000 ∧ O.length ≤ 1000 ∧ LamX.TabS H PT qLam ∧
  ∀ H' wl' pl', StoreAt H' C st dx wl' pl' room entries least (flat (O.filter (·.live))) (pD (tbl (O.filter (·.live)))) → LamX.TabS H' PT qLam → FrN [st] H H' → H wl' = none → H pl' = none → Q .non H'
theorem ok_Store_close_up (W : WT P K mg base) : FnOk P w K mg base CX0 1 W.f_Store_close_up W.fd_Store_close_up ["self"] (sp_close W.c_Store W.PT_Store_close_up) := by
  refine W.G_Store_close_up.ok sc_Store_close_up (fun vs H Q E h => ?_) (fun A outer s H vs Q E hr h => ?_)
  · obtain ⟨st, dx, wl, pl, room, entries, least, kvs, O, rfl, _⟩ := h
    rfl
  · obtain ⟨st, dx, wl, pl, room, entries, least, kvs, O, rfl, S, G, hfl, hO, hT, k⟩ := h
    have hu1 := hu_of hr
    have hu64 := hu64_of hr
    refine ⟨_, (pss_cons (ps_set (i := 1) sc_Store_close_up.nd rfl (by first | exact Or.inl rfl | exact Or.inr rfl) (pe_lst pa_nil))
      (pss_cons (ps_set (i := 2) sc_Store_close_up.nd rfl (by first | exact Or.inl rfl | exact Or.inr rfl) pe_dnewK)
      (pss_cons (ps_set (i := 3) sc_Store_close_up.nd rfl (by first | exact Or.inl rfl | exact Or.inr rfl) (pe_fld (pv 0) rfl))
      (pss_cons (ps_for PassesOwn.never rfl (pi_list (pe_sortKeyLam (T := [(W.PT_Store_close_up, qLam)]) (c := W.cA_Store_close_up) (P := W.PT_Store_close_up) (i := 3) (x := "old") (y := "number") rfl hr rfl W.n_sorted rfl rfl W.TB rfl (List.mem_singleton.mpr rfl) (fun p hp _ => by cases List.mem_singleton.mp hp; rfl) rfl rfl rfl rfl (by decide +kernel) rfl rfl (by intro z hz e; rcases List.mem_cons.mp hz with h | h; (subst h; cases e); (cases List.mem_singleton.mp h; exact Or.inl rfl)) (fun _ _ _ _ _ _ => rfl) (by decide) (by decide) (by decide))) (pg_name (i := 4) sc_Store_close_up.nd rfl (by first | exact Or.inl rfl | exact Or.inr rfl)) (pss_cons (ps_set (i := 5) sc_Store_close_up.nd rfl (by first | exact Or.inl rfl | exact Or.inr rfl) (pe_ix (ix_U hu1) (pv 3) (pv 4) (fun _ _ => rfl)))
      (pss_cons (ps_dput hu1 (pv 2) (pv 4) (pe_callB call_lenU (by rfl) W.n_len bb_len (pa_cons (pv 1) pa_nil)) rfl)
      (pss_one (ps_expr (pe_bm PySem.F.plainAttrs_list PySem.F.slot_list_extend PySem.F.type_list_extend mt_extend (pv 1) (pa_cons (pe_slice sl_U (pe_fld (pv 0) rfl) (po_some (pv 5)) (po_some (pe_op op_addU (pe_op op_addU (pv 5) (pe_gi rfl W.g_HEADER)) (pe_ix (ix_U hu1) (pe_fld (pv 0) rfl) (pe_op op_addU (pv 5) pe_int) (fun _ _ => rfl))))) pa_nil)))))))
      (pss_cons (ps_fld (pv 0) (pv 1) rfl)
      (pss_one (ps_fld (pv 0) (pv 2) rfl))))))), ?_⟩
    refine ⟨(by show 0 ≤ sizeLine; decide), fun wn hwn => ?_⟩
    have f1 : Fr [] H (upd H wn (.lst [])) := Fr.new hwn
    have hw1 : upd H wn (.lst []) wn = some (.lst []) := upd_same
    generalize upd H wn (.lst []) = H1 at f1 hw1
    refine fun pn hpn => ?_
    have f2 : Fr [] H1 (upd H1 pn (.dK [])) := Fr.new hpn
    have hp2 : upd H1 pn (.dK []) pn = some (.dK []) := upd_same
    have hw2 := f2 _ _ hw1 (by simp)
    have nwp : wn ≠ pn := ne_of_none hw1 hpn
    have hpn0 : H pn = none := by
      cases e : H pn with
      | none => rfl
      | some o => rw [f1 _ _ e (by simp)] at hpn; cases hpn
    have f2 := f1.trans f2
    show gName 2 (V.ref pn) _ (upd H1 pn (.dK [])) _
    generalize upd H1 pn (.dK []) = H2 at f2 hp2 hw2
    have S2 := S.keep f2 (by simp)
    refine ⟨_, rfl, st, _, dx, _, _, rfl, S2.st, W.C_Store, W.na_Store__places, rfl, ?_⟩
    obtain ⟨ps, ek, nd, pm⟩ := G.pairs
    subst ek
    have T2 : LamX.TabS H2 W.PT_Store_close_up qLam := hT.ext fun b o e => f2 b o e (by simp)
    refine ⟨pl, ps, rfl, S2.pl, nd, (fun p hp => by cases List.mem_singleton.mp hp; exact T2), fun H3 eN T3 ys q py py2 hq => ?_⟩
    have T3 := T3 _ (List.mem_singleton.mpr rfl)
    have ey : ys = tbl O := by_place (py.trans pm) py2
    subst ey
    have S3 := S2.keepN eN
    have hw3 := eN _ _ hw2 (by intro ps z; cases z)
    have hp3 := eN _ _ hp2 (by intro ps z; cases z)
    have f3 : FrN [] H H3 := fun b o e n t => eN _ _ (f2 b o e n) t
    have f4 : Fr [] H3 (upd H3 q (.lst (((tbl O).map (·.1)).map V.int))) := Fr.new hq
    have hq4 : upd H3 q (.lst (((tbl O).map (·.1)).map V.int)) q = some (.lst (((tbl O).map (·.1)).map V.int)) := upd_same
    have T4 := T3.ext fun b o e => f4 b o e (by simp)
    have S4 := S3.keep f4 (by simp)
    have hw4 := f4 _ _ hw3 (by simp)
    have hp4 := f4 _ _ hp3 (by simp)
    have nqw : q ≠ wn := (ne_of_none hw3 hq).symm
    have f4 := f3.trans f4.n
    generalize upd H3 q (.lst (((tbl O).map (·.1)).map V.int)) = H4 at hq4 T4 S4 hw4 hp4 f4
    have lenT : (tbl O).length = (O.filter (·.live)).length := by
      have := congrArg List.length (tbl_fst O)
      rw [List.length_map, List.length_map] at this
      exact this
    have lenL := List.length_filter_le (fun o : Ob => o.live) O
    have wlw : wl ≠ wn := ne_of_none S.wl hwn
    have plp : pl ≠ pn := ne_of_none S.pl hpn0
    have stw : st ≠ wn := ne_of_none S.st hwn
    have stp : st ≠ pn := ne_of_none S.st hpn0
    refine ⟨q, rfl, ⟨_, SqL.of hq4⟩, ?_⟩
    refine for_list (K := K) (a := q) (xs := ((tbl O).map (·.1)).map V.int) (fun j σ H' => ∃ (v4 v5 : Option V), σ = [some (.ref st), some (.ref wn), some (.ref pn), some (.ref pl), v4, v5] ∧ H' q = some (.lst (((tbl O).map (·.1)).map V.int)) ∧ LamX.TabS H' W.PT_Store_close_up qLam ∧ StoreAt H' W.c_Store st dx wl pl room entries least (flat O) (pD ps) ∧ H' wn = some (.lst ((flat ((O.filter (·.live)).take j)).map V.int)) ∧ H' pn = some (.dK (pD (tbl ((O.filter (·.live)).take j)))) ∧ FrN [] H H')
      ⟨_, _, rfl, hq4, T4, S4, hw4, hp4, f4⟩ (fun j σ H5 _ hI => ?_) (fun j x σ H5 hx hI => ?_) (fun σ H5 hI => ?_)
    · obtain ⟨v4, v5, rfl, a1, _⟩ := hI
      exact SqL.of a1
    · obtain ⟨v4, v5, rfl, a1, a2, a3, a4, a5, a6⟩ := hI
      rw [List.map_map, List.getElem?_map] at hx
      obtain ⟨z, hz, rfl⟩ := Option.map_eq_some_iff.mp hx
      obtain ⟨n, pp⟩ := z
      obtain ⟨i, o, ho, hl, rfl, rfl⟩ := (tbl_mem O n pp).mp (List.mem_of_getElem? hz)
      have hoj : (O.filter (·.live))[j]? = some o := by
        have e1 : ((tbl O).map (·.1))[j]? = some o.num := by rw [List.getElem?_map, hz]; rfl
        rw [tbl_fst, List.getElem?_map] at e1
        obtain ⟨o2, h1, h2⟩ := Option.map_eq_some_iff.mp e1
        have m2 := List.mem_filter.mp (List.mem_of_getElem? h1)
        obtain ⟨i2, hi2⟩ := List.getElem?_of_mem m2.1
        have := G.un i2 i o2 o hi2 ho m2.2 hl h2
        subst this
        rw [ho] at hi2
        rw [h1, hi2]
      have hjlt : j < (O.filter (·.live)).length := (List.getElem?_eq_some_iff.mp hoj).1
      have htk : (O.filter (·.live)).take (j + 1) = (O.filter (·.live)).take j ++ [o] := by rw [List.take_succ, hoj]; rfl
      have hlen2 : (flat ((O.filter (·.live)).take j)).length + (fl o).length ≤ 200000 := by
        have h1 := off_lt hoj
        unfold off at h1
        have h2 : (flat (O.filter (·.live))).length ≤ (flat O).length := by
          have : ∀ l : List Ob, (flat (l.filter (·.live))).length ≤ (flat l).length := by
            intro l
            induction l with
            | nil => exact Nat.le_refl _
            | cons a r ih =>
              by_cases q : a.live = true
              · rw [List.filter_cons_of_pos (by exact q), flat_cons, flat_cons, List.length_append, List.length_append]; omega
              · rw [List.filter_cons_of_neg (by exact q), flat_cons, List.length_append]; omega
          exact this O
        rw [fl_len]
        omega
      -- place = old[number]
      refine ⟨_, rfl, _, rfl, Or.inr ⟨.int (off O i : Nat), by rw [← G.at ho hl]; exact DGet.k (k := Sum.inl o.num) a3.pl, ?_⟩⟩
      -- places[number] = len(words)
      refine ⟨_, rfl, Or.inl ⟨_, Or.inl (SqL.of a4), ?_⟩⟩
      rw [List.length_map]
      refine ⟨_, rfl, _, rfl, pn, _, rfl, DPut.k (k := Sum.inl o.num) a5 (by
        unfold pD tbl
        have := congrArg List.length (lvF_ob 0 ((O.filter (·.live)).take j))
        rw [List.length_map] at this
        have h2 := List.length_filter_le (fun o : Ob => o.live) ((O.filter (·.live)).take j)
        rw [List.length_take] at h2
        rw [List.length_map, List.length_map, sizeLine_eq]
        omega), ?_⟩
      have hnew : valV (pD (tbl ((O.filter (·.live)).take j))) (.inl o.num) = none := by
        cases e : valV (pD (tbl ((O.filter (·.live)).take j))) (.inl o.num) with
        | none => rfl
        | some v =>
          exfalso
          obtain ⟨m, i2, h1, h2, h3⟩ : ∃ n i : Int, (n, i) ∈ tbl ((O.filter (·.live)).take j) ∧ (Sum.inl o.num : Key) = .inl n ∧ v = .int i := by
            obtain ⟨p, hp, e2⟩ := List.mem_map.mp (show ((Sum.inl o.num : Key), v) ∈ (tbl ((O.filter (·.live)).take j)).map _ from val_mem e)
            obtain ⟨e3, e4⟩ := Prod.mk.inj e2
            exact ⟨p.1, p.2, hp, e3.symm, e4.symm⟩
          cases h2
          obtain ⟨i3, o3, h4, h5, h6, _⟩ := (tbl_mem _ _ _).mp h1
          rw [List.getElem?_take] at h4
          split at h4
          · rename_i hlt
            have := (List.getElem?_inj (l := (O.filter (·.live)).map (·.num)) (i := i3) (j := j) (by rw [List.length_map]; omega) G.nums).mp (by rw [List.getElem?_map, List.getElem?_map, h4, hoj, Option.map_some, Option.map_some, h6])
            omega
          · cases h4
      have eput : putK (pD (tbl ((O.filter (·.live)).take j))) (.inl o.num) (.int ((flat ((O.filter (·.live)).take j)).length : Int)) = pD (tbl ((O.filter (·.live)).take (j + 1))) := by
        rw [putK_new _ hnew, htk, tbl_snoc _ _ hl]
        unfold pD
        rw [List.map_append]
        rfl
      rw [eput]
      have npw := nwp.symm
      have npl : pl ≠ pn := plp
      have b1 : upd H5 pn (.dK (pD (tbl ((O.filter (·.live)).take (j + 1))))) pn = some (.dK (pD (tbl ((O.filter (·.live)).take (j + 1))))) := upd_same
      have fb : Fr [pn] H5 (upd H5 pn (.dK (pD (tbl ((O.filter (·.live)).take (j + 1)))))) := Fr.at (by simp)
      have nqp : q ≠ pn := ne_of a1 a5 (by intro z; cases z)
      have c1 := fb _ _ a1 (by simpa using nqp)
      have c2 := tab_out a2 fb (fun b hb => by
        have e : b = pn := by simpa using hb
        rw [e]
        exact ⟨_, a5, (by intro ps z; cases z), (by intro ps z; cases z)⟩)
      have nwlp : wl ≠ pn := ne_of a3.wl a5 (by intro z; cases z)
      have c3 := a3.keep fb (fun b hb h => by
        have h : b = pn := by simpa using h
        simp only [List.mem_cons, List.not_mem_nil, or_false] at hb
        rcases hb with e | e | e
        · exact stp (e.symm.trans h)
        · exact nwlp (e.symm.trans h)
        · exact plp (e.symm.trans h))
      have c4 := fb _ _ a4 (by simpa using nwp)
      have c6 : FrN [] H (upd H5 pn (.dK (pD (tbl ((O.filter (·.live)).take (j + 1)))))) := fun b o e n t => by rw [upd_ne (ne_of_none e hpn0)]; exact a6 b o e n t
      generalize upd H5 pn (.dK (pD (tbl ((O.filter (·.live)).take (j + 1))))) = H6 at b1 c1 c2 c3 c4 c6
      -- words.extend(..)
      refine ⟨_, rfl, Or.inl ⟨rfl, _, SqL.of c4⟩, ?_⟩
      refine ⟨_, rfl, st, _, dx, _, _, rfl, c3.st, W.C_Store, W.na_Store_words, rfl, ?_⟩
      refine ⟨_, rfl, _, rfl, ?_⟩
      refine ⟨_, rfl, ?_⟩
      refine ⟨_, rfl, st, _, dx, _, _, rfl, c3.st, W.C_Store, W.na_Store_words, rfl, ?_⟩
      refine ⟨_, rfl, ?_⟩
      refine Or.inl ⟨_, _, _, rfl, Or.inl (SqL.of c3.wl), atI_nat (j := off O i + 1) (int_at (flat_size ho)), ?_⟩
      refine ⟨_, rfl, ?_⟩
      refine Or.inl ⟨wl, _, rfl, SqL.of c3.wl, fun l hl1 => ?_⟩
      have ecut : cutV ((flat O).map V.int) (some ((off O i : Nat) : Int)) (some (((off O i : Nat) : Int) + 3 + (o.sl.length : Int))) = (fl o).map V.int := by
        have h := cut_seg (ws := flat O) (p := off O i) (n := 3 + o.sl.length) (by have := off_lt ho; omega)
        rw [seg_fl ho] at h
        rw [← h]
        congr 2
        omega
      rw [ecut]
      have nwl : wn ≠ l := ne_of_none c4 hl1
      have g7 : Fr [] H6 (upd H6 l (.lst ((fl o).map V.int))) := Fr.new hl1
      have hl7 : upd H6 l (.lst ((fl o).map V.int)) l = some (.lst ((fl o).map V.int)) := upd_same
      generalize upd H6 l (.lst ((fl o).map V.int)) = H7 at g7 hl7
      have c1 := g7 _ _ c1 (by simp)
      have c2 := c2.ext fun b o e => g7 b o e (by simp)
      have c3 := c3.keep g7 (by simp)
      have c4 := g7 _ _ c4 (by simp)
      have b1 := g7 _ _ b1 (by simp)
      have c6 := c6.trans g7.n
      refine ⟨wn, l, _, _, rfl, rfl, c4, hl7, by rw [List.length_map, List.length_map, sizeLine_eq]; omega, ?_⟩
      have ecat : (flat ((O.filter (·.live)).take j)).map V.int ++ (fl o).map V.int = (flat ((O.filter (·.live)).take (j + 1))).map V.int := by
        rw [htk, flat_app, ← List.map_append]
        congr 2
        show fl o = fl o ++ []
        rw [List.append_nil]
      rw [ecat]
      have fd : Fr [wn] H7 (upd H7 wn (.lst ((flat ((O.filter (·.live)).take (j + 1))).map V.int))) := Fr.at (by simp)
      refine ⟨_, _, rfl, fd _ _ c1 (by simpa using nqw), tab_out c2 fd (fun b hb => by
        have e : b = wn := by simpa using hb
        rw [e]
        exact ⟨_, c4, (by intro ps z; cases z), (by intro ps z; cases z)⟩), c3.keep fd (fun b hb h => by
        have h : b = wn := by simpa using h
        simp only [List.mem_cons, List.not_mem_nil, or_false] at hb
        rcases hb with e | e | e
        · exact stw (e.symm.trans h)
        · exact wlw (e.symm.trans h)
        · exact (ne_of c3.pl c4 (by intro z; cases z)) (e.symm.trans h)), upd_same, fd _ _ b1 (by simpa using nwp.symm), fun b o e n t => by rw [upd_ne (ne_of_none e hwn)]; exact c6 b o e n t⟩
    · obtain ⟨v4, v5, rfl, a1, a2, a3, a4, a5, a6⟩ := hI
      have elen : ((((tbl O).map (·.1)).map V.int)).length = (O.filter (·.live)).length := by rw [List.length_map, List.length_map, lenT]
      rw [elen, List.take_length] at a4 a5
      refine ⟨_, rfl, _, rfl, st, _, dx, _, rfl, a3.st, W.C_Store, W.na_Store_words, (by show 5 < 1000; decide), ?_⟩
      refine ⟨_, rfl, _, rfl, st, _, dx, _, rfl, upd_same, W.C_Store, W.na_Store__places, (by show 5 < 1000; decide), ?_⟩
      rw [upd_upd]
      have fd : Fr [st] H5 (upd H5 st (.ins W.c_Store dx (sF room entries wn pn least))) := Fr.at (by simp)
      refine k _ wn pn ⟨upd_same, fd _ _ a4 (by simpa using stw.symm), fd _ _ a5 (by simpa using stp.symm)⟩ (tab_out a2 fd (fun b hb => by
        have e : b = st := by simpa using hb
        rw [e]
        exact ⟨_, a3.st, (by intro ps z; cases z), (by intro ps z; cases z)⟩)) ((a6.mono (by simp)).trans fd.n) hwn hpn0
end

end LX
namespace LX
open PySem PySem.Spec PyProof.Rows L2 NdefX
section
variable {P : Program} {w : World} {K : PySem.W.Frag} {mg : Str → Option Value} {base : Heap}
def kept (O : List Ob) (F : List Int) : List Ob := (O.filter (·.live)).filter fun p => decide (p.num ∈ F)
def sp_collect (C PT : Addr) : Sp := fun vs H Q _ => ∃ st dx wl pl room entries least O kvs ra, ∃ rs : List Int, vs = [.ref st, .ref ra] ∧ StoreAt H C st dx wl pl room entries least (flat O) kvs ∧ Good O kvs least ∧ (∀ o ∈ O, o.sl.length ≤ 39) ∧ (∀ o ∈ O, 0 ≤ o.num) ∧ O.length ≤ 80 ∧ IsI H ra rs ∧ rs.length ≤ 65 ∧ LamX.TabS H PT qLam ∧
  ∀ F H' wl' pl' least', F.Nodup → (∀ n, n ∈ F ↔ Reach O rs n) → StoreAt H' C st dx wl' pl' room entries least' (flat (kept O F)) (pD (tbl (kept O F))) → Good (kept O F) (pD (tbl (kept O F))) least' → LamX.TabS H' PT qLam → FrN [st, wl, pl] H H' → H wl' = none → H pl' = none → Q (.int (((O.filter (·.live)).length : Int) - (F.length : Int))) H'
theorem ok_collect (W : WT P K mg base) : FnOk P w K mg base CX0 4 W.f_collect W.fd_collect ["store", "roots"] (sp_collect W.c_Store W.PT_Store_close_up) := by
  refine W.F_collect.ok sc_collect (fun vs H Q E h => ?_) (fun cdv Ar outer s H vs Q E hr h => ?_)
  · obtain ⟨st, dx, wl, pl, room, entries, least, O, kvs, ra, rs, rfl, _⟩ := h
    rfl
  · obtain ⟨st, dx, wl, pl, room, entries, least, O, kvs, ra, rs, rfl, S, G, sz, nn, hO, hra, hrs, hT, k⟩ := h
    have hu1 := hu_of hr
    have hu64 := hu64_of hr
    refine ⟨_, (pss_cons (ps_set (i := 2) sc_collect.nd rfl (by first | exact Or.inl rfl | exact Or.inr rfl) (pe_call (ok_reached W) (hr.mono (by decide)) rfl W.g_reached W.F_reached.kp W.b_reached .nil pass0 (pa_cons (pv 0) (pa_cons (pv 1) pa_nil))))
      (pss_cons (ps_setLc (i := 3) (own := [("number", 4)]) (g := gName 4)  rfl sc_collect.nd rfl rfl (sw_true rfl rfl rfl (by decide +kernel)) (pi_list (pe_meth0 (pv 0) W.C_Store W.m_Store_numbers (ok_Store_numbers W) (hr.mono (by decide)) W.b_Store_numbers .nil pass0 )) (blkOk_by (N := N_collect) (sc := defScope s_collect) (by first | decide +kernel | rfl)) (fun _ _ _ _ _ => (pg_name (i := 4) sc_collect.nd rfl (by first | exact Or.inl rfl | exact Or.inr rfl))) (fun _ _ _ _ _ => pts_one (pt_cmpR (op_ninUK (K := K) rfl (by exact hu1)) (pv 4) (pv 2) (by first | exact nomark _ | rfl))) (fun _ _ _ _ _ => (pv 4)))
      (pss_cons (ps_for PassesOwn.never rfl (pi_list (pv 3)) (pg_name (i := 4) sc_collect.nd rfl (by first | exact Or.inl rfl | exact Or.inr rfl)) (pss_one (ps_expr (pe_meth (pv 0) W.C_Store W.m_Store_drop (ok_Store_drop W) (hr.mono (by decide)) W.b_Store_drop .nil pass0 (pa_cons (pv 4) pa_nil)))))
      (pss_cons (ps_expr (pe_meth0 (pv 0) W.C_Store W.m_Store_close_up (ok_Store_close_up W) (hr.mono (by decide)) W.b_Store_close_up .nil pass0 ))
      (pss_one (ps_ret (pe_callB call_lenU (by rfl) W.n_len bb_len (pa_cons (pv 3) pa_nil)))))))), ?_⟩
    refine ⟨_, rfl, _, rfl, ?_⟩
    refine ⟨st, dx, wl, pl, room, entries, least, O, kvs, ra, rs, rfl, S, G, sz, hO, hra, hrs, fun D F H1 hD0 hD ndF hF f1 => ?_⟩
    have S1 := S.keep f1 (by simp)
    have T1 := hT.ext fun b o e => f1 b o e (by simp)
    obtain ⟨ns, n1, n2⟩ := G.ints
    have Flen : F.length ≤ O.length := live_len ndF fun n hn => ((hF n).mp hn).live
    refine ⟨_, rfl, st, dx, _, rfl, S1.st, rfl, ?_⟩
    refine ⟨st, dx, wl, pl, _, _, least, _, kvs, ns, rfl, S1, n1, fun ms q pm ps hq => ?_⟩
    have g2 : Fr [] H1 (upd H1 q (.lst (ms.map V.int))) := Fr.new hq
    have hq2 : upd H1 q (.lst (ms.map V.int)) q = some (.lst (ms.map V.int)) := upd_same
    have hD2 := g2 _ _ hD (by simp)
    have S2 := S1.keep g2 (by simp)
    have T2 := T1.ext fun b o e => g2 b o e (by simp)
    generalize upd H1 q (.lst (ms.map V.int)) = H2 at g2 hq2 hD2 S2 T2
    have f2 := f1.trans g2
    have lms : ms.length ≤ 80 := by
      rw [pm.length_eq, n2.length_eq, List.length_map]
      have := List.length_filter_le (fun o : Ob => o.live) O
      omega
    refine ⟨q, rfl, ⟨_, SqL.of hq2⟩, fun gA hgA => ?_⟩
    refine lc_list (K := K) (a := q) (xs := ms.map V.int) (fun i H' => H' = upd H2 gA (.lst (((ms.take i).filter fun n => !decide (n ∈ F)).map V.int))) rfl (fun i H' _ e => ?_) (fun i x H' hx e => ?_) (fun H' e => ?_)
    · subst e
      exact SqL.of (Fr.new (F := []) (o := .lst (((ms.take i).filter fun n => !decide (n ∈ F)).map V.int)) hgA q _ hq2 (by simp))
    · subst e
      rw [List.getElem?_map] at hx
      obtain ⟨n, hn, rfl⟩ := Option.map_eq_some_iff.mp hx
      have hD3 := Fr.new (F := []) (o := .lst (((ms.take i).filter fun n => !decide (n ∈ F)).map V.int)) hgA D _ hD2 (by simp)
      have lt : ((ms.take i).filter fun n => !decide (n ∈ F)).length ≤ 80 := by
        have := List.length_filter_le (fun n => !decide (n ∈ F)) (ms.take i)
        rw [List.length_take] at this
        omega
      refine ⟨rfl, ?_⟩
      refine ⟨_, rfl, _, rfl, Or.inr ⟨_, DGet.k (k := Sum.inl n) hD3, ?_⟩⟩
      rw [dF_val]
      refine ⟨_, rfl, ?_⟩
      by_cases hn2 : n ∈ F
      · rw [if_pos hn2]
        refine iteF ?_
        rw [take_filter_no hn (by simp [hn2])]
      · rw [if_neg hn2]
        refine iteT ?_
        refine ⟨_, rfl, _, upd_same, by rw [List.length_map, sizeLine_eq]; omega, ?_⟩
        rw [upd_upd, take_filter_yes hn (by simp [hn2]), List.map_append]; rfl
    subst e
    rw [List.length_map, List.take_length]
    generalize eG : (ms.filter fun n => !decide (n ∈ F)) = Gn
    have g3 : Fr [] H2 (upd H2 gA (.lst (Gn.map V.int))) := Fr.new hgA
    have hg3 : upd H2 gA (.lst (Gn.map V.int)) gA = some (.lst (Gn.map V.int)) := upd_same
    have S3 := S2.keep g3 (by simp)
    have T3 := T2.ext fun b o e => g3 b o e (by simp)
    have f3 := f2.trans g3
    have hg0 : H gA = none := by
      cases e : H gA with
      | none => rfl
      | some o => rw [f2 _ _ e (by simp)] at hgA; cases hgA
    generalize upd H2 gA (.lst (Gn.map V.int)) = H3 at g3 hg3 S3 T3 f3
    have nst : st ≠ pl := ne_of S3.st S3.pl (by intro z; cases z)
    have ngs : gA ≠ st := ne_of hg3 S3.st (by intro z; cases z)
    have ngp : gA ≠ pl := ne_of hg3 S3.pl (by intro z; cases z)
    have nwp : wl ≠ pl := ne_of S3.wl S3.pl (by intro z; cases z)
    have nwst : wl ≠ st := ne_of S3.wl S3.st (by intro z; cases z)
    have ndms : ms.Nodup := pm.nodup_iff.mpr (n2.nodup_iff.mpr G.nums)
    have ndG : Gn.Nodup := by rw [← eG]; exact ndms.filter _
    have memG : ∀ n, n ∈ Gn ↔ (n ∈ (O.filter (·.live)).map (·.num)) ∧ n ∉ F := fun n => by
      rw [← eG, List.mem_filter, pm.mem_iff, n2.mem_iff]
      simp
    have lenG : (Gn.length : Int) = ((O.filter (·.live)).length : Int) - (F.length : Int) := by
      have p1 : (Gn ++ F).Perm ((O.filter (·.live)).map (·.num)) := by
        refine perm_of (List.nodup_append.mpr ⟨ndG, ndF, fun a ha b hb e => ?_⟩) G.nums fun n => ?_
        · subst e; exact ((memG a).mp ha).2 hb
        · rw [List.mem_append, memG]
          constructor
          · rintro (h | h)
            · exact h.1
            · obtain ⟨i, o, h1, h2, h3⟩ := ((hF n).mp h).live
              exact List.mem_map.mpr ⟨o, List.mem_filter.mpr ⟨List.mem_of_getElem? h1, h2⟩, h3⟩
          · intro h
            by_cases q : n ∈ F
            · exact Or.inr q
            · exact Or.inl ⟨h, q⟩
      have := p1.length_eq
      rw [List.length_append, List.length_map] at this
      omega
    refine ⟨_, rfl, gA, rfl, ⟨_, SqL.of hg3⟩, ?_⟩
    refine for_list (K := K) (a := gA) (xs := Gn.map V.int) (fun j σ H' => ∃ (v4 : Option V) (Oj : List Ob) (kj : List (Key × V)) (lj : Int), σ = [some (.ref st), some (.ref ra), some (.ref D), some (.ref gA), v4] ∧ StoreAt H' W.c_Store st dx wl pl room entries lj (flat O) kj ∧ Good Oj kj lj ∧ flat Oj = flat O ∧ Oj.length = O.length ∧ (∀ o ∈ Oj, 0 ≤ o.num) ∧ Oj.filter (·.live) = (O.filter (·.live)).filter (fun p => !decide (p.num ∈ Gn.take j)) ∧ H' gA = some (.lst (Gn.map V.int)) ∧ LamX.TabS H' W.PT_Store_close_up qLam ∧ Fr [st, pl] H H')
      ⟨_, O, kvs, least, rfl, S3, G, rfl, rfl, nn, by simp, hg3, T3, f3.mono (by simp)⟩ (fun j σ H4 _ hI => ?_) (fun j x σ H4 hx hI => ?_) (fun σ H4 hI => ?_)
    · obtain ⟨v4, Oj, kj, lj, rfl, a1, a2, a3, a4, a5, a6, a7, a8, a9⟩ := hI
      exact SqL.of a7
    · obtain ⟨v4, Oj, kj, lj, rfl, a1, a2, a3, a4, a5, a6, a7, a8, a9⟩ := hI
      rw [List.getElem?_map] at hx
      obtain ⟨n, hn, rfl⟩ := Option.map_eq_some_iff.mp hx
      have hnG := List.mem_of_getElem? hn
      obtain ⟨o, ho, hon⟩ := List.mem_map.mp ((memG n).mp hnG).1
      have hnt : n ∉ Gn.take j := fun h => by
        obtain ⟨i, hi⟩ := List.getElem?_of_mem h
        rw [List.getElem?_take] at hi
        split at hi
        · rename_i hlt
          have hi2 := (List.getElem?_eq_some_iff.mp hi).1
          have := (List.getElem?_inj (l := Gn) (i := i) (j := j) hi2 ndG).mp (by rw [hi, hn])
          omega
        · cases hi
      have hoj : o ∈ Oj.filter (·.live) := by
        rw [a6]
        exact List.mem_filter.mpr ⟨ho, by rw [hon]; simp [hnt]⟩
      obtain ⟨m1, m2⟩ := List.mem_filter.mp hoj
      obtain ⟨i, hi⟩ := List.getElem?_of_mem m1
      have m2 : o.live = true := m2
      subst hon
      refine ⟨_, rfl, st, dx, _, rfl, a1.st, rfl, ?_⟩
      refine ⟨_, rfl, ?_⟩
      refine ⟨st, dx, wl, pl, _, _, lj, _, kj, o.num, rfl, a1, by rw [a2.at hi m2]; rfl, fun H5 S5 k5 => ?_⟩
      have fd : Fr [st, pl] H4 H5 := Fr.of k5 (by simp) (by simp)
      refine ⟨_, Oj.set i { o with live := false }, _, _, rfl, S5, a2.kill hi m2 (a5 o m1), by rw [flat_kill hi]; exact a3, by rw [List.length_set]; exact a4, fun p hp => ?_, ?_, fd _ _ a7 (by simp [ngs, ngp]), tab_out a8 fd (fun b hb => ?_), a9.trans fd⟩
      · rcases List.mem_or_eq_of_mem_set hp with hp | rfl
        · exact a5 p hp
        · exact a5 o m1
      · rw [kill_filter a2 hi m2, a6, List.filter_filter]
        refine List.filter_congr fun p _ => ?_
        have e : Gn.take (j + 1) = Gn.take j ++ [o.num] := by rw [List.take_succ, hn]; rfl
        rw [e]
        by_cases h1 : p.num ∈ Gn.take j <;> by_cases h2 : p.num = o.num <;> simp [h1, h2]
      · simp only [List.mem_cons, List.not_mem_nil, or_false] at hb
        rcases hb with e | e
        · rw [e]; exact ⟨_, a1.st, (by intro ps z; cases z), (by intro ps z; cases z)⟩
        · rw [e]; exact ⟨_, a1.pl, (by intro ps z; cases z), (by intro ps z; cases z)⟩
    · obtain ⟨v4, Oj, kj, lj, rfl, a1, a2, a3, a4, a5, a6, a7, a8, a9⟩ := hI
      rw [List.length_map, List.take_length] at a6
      have fl2 := flat_len sz
      have ek : Oj.filter (·.live) = kept O F := by
        rw [a6]
        unfold kept
        refine List.filter_congr fun p hp => ?_
        by_cases h : p.num ∈ F
        · have : p.num ∉ Gn := fun z => ((memG _).mp z).2 h
          simp [h, this]
        · have : p.num ∈ Gn := (memG _).mpr ⟨List.mem_map.mpr ⟨p, hp, rfl⟩, h⟩
          simp [h, this]
      refine ⟨_, rfl, st, dx, _, rfl, a1.st, rfl, ?_⟩
      refine ⟨st, dx, wl, pl, _, _, lj, kj, Oj, rfl, by rw [a3]; exact a1, a2, by rw [a3]; omega, by omega, a8, fun H6 wl' pl' S6 T6 f6 hw hp => ?_⟩
      rw [ek] at S6
      have G6 := a2.close
      rw [ek] at G6
      have hg6 := f6.lst a7 (by simpa using ngs)
      refine ⟨_, rfl, Or.inl ⟨_, Or.inl (SqL.of hg6), ?_⟩⟩
      rw [List.length_map, lenG]
      have back : ∀ c, H4 c = none → H c = none := fun c hc => by
        cases e : H c with
        | none => rfl
        | some o =>
          by_cases hm : c ∈ [st, pl]
          · simp only [List.mem_cons, List.not_mem_nil, or_false] at hm
            rcases hm with h | h
            · rw [h, a1.st] at hc; cases hc
            · rw [h, a1.pl] at hc; cases hc
          · rw [a9 _ _ e hm] at hc; cases hc
      exact k F H6 wl' pl' lj ndF hF S6 G6 T6 ((a9.n.mono (by simp)).trans (f6.mono (by simp))) (back _ hw) (back _ hp)
end

end LX
namespace LX
open PySem PySem.Spec PyProof.Rows L2 NdefX
section
variable {P : Program} {w : World} {K : PySem.W.Frag} {mg : Str → Option Value} {base : Heap}
def pF (st pr rt hd : Addr) (al co : Int) : List (Str × V) := [("store", .ref st), ("pressure", .ref pr), ("always", .bl false), ("allocations", .int al), ("collections", .int co), ("_roots", .ref rt), ("_held", .ref hd), ("_saved", .non)]
structure SpaceAt (H : Hp) (C sp dx st pr rt hd : Addr) (al co : Int) (rs hs : List Int) : Prop where
  sp : H sp = some (.ins C dx (pF st pr rt hd al co))
  pr : H pr = some (.lst [])
  rt : H rt = some (.lst (rs.map V.int))
  hd : H hd = some (.lst (hs.map V.int))
theorem SpaceAt.keep {H H' : Hp} {C sp dx st pr rt hd : Addr} {al co : Int} {rs hs : List Int} (S : SpaceAt H C sp dx st pr rt hd al co rs hs) {F : List Addr} (f : Fr F H H') (h : ∀ b ∈ [sp, pr, rt, hd], b ∉ F) : SpaceAt H' C sp dx st pr rt hd al co rs hs :=
  ⟨f _ _ S.sp (h _ (by simp)), f _ _ S.pr (h _ (by simp)), f _ _ S.rt (h _ (by simp)), f _ _ S.hd (h _ (by simp))⟩
def sp_allr : Addr → Sp := fun C vs H Q _ => ∃ sp dx st pr rt hd al co rs hs, vs = [.ref sp] ∧ SpaceAt H C sp dx st pr rt hd al co rs hs ∧ rs.length ≤ 1000 ∧ hs.length ≤ 1000 ∧
  ∀ l H', H' l = some (.lst ((0 :: (rs ++ hs)).map V.int)) → H l = none → Fr [] H H' → Q (.ref l) H'
theorem ok_Space_all_roots (W : WT P K mg base) : FnOk P w K mg base CX0 1 W.f_Space_all_roots W.fd_Space_all_roots ["self"] (sp_allr W.c_Space) := by
  refine W.F_Space_all_roots.ok sc_Space_all_roots (fun vs H Q E h => ?_) (fun cdv A outer s H vs Q E hr h => ?_)
  · obtain ⟨sp, dx, st, pr, rt, hd, al, co, rs, hs, rfl, _⟩ := h
    rfl
  · obtain ⟨sp, dx, st, pr, rt, hd, al, co, rs, hs, rfl, S, h1, h2, k⟩ := h
    have hu1 := hu_of hr
    have hu64 := hu64_of hr
    refine ⟨_, (pss_one (ps_ret (pe_op op_addU (pe_op op_addU (pe_lst (pa_cons (pe_gi rfl W.g_NIL) pa_nil)) (pe_fld (pv 0) rfl)) (pe_fld (pv 0) rfl)))), ?_⟩
    refine ⟨(by show 1 ≤ sizeLine; decide), fun q hq => ?_⟩
    have f1 : Fr [] H (upd H q (.lst [.int 0])) := Fr.new hq
    have q1 : upd H q (.lst [.int 0]) q = some (.lst [.int 0]) := upd_same
    generalize upd H q (.lst [.int 0]) = H1 at f1 q1
    have S1 := S.keep f1 (by simp)
    refine ⟨_, rfl, sp, _, dx, _, _, rfl, S1.sp, W.C_Space, W.na_Space__roots, rfl, ?_⟩
    refine Or.inl ⟨q, rt, _, _, rfl, rfl, q1, S1.rt, (by rw [List.length_map, sizeLine_eq]; show 1 + rs.length ≤ _; omega), fun q2 hq2 => ?_⟩
    have f2 : Fr [] H1 (upd H1 q2 (.lst ([V.int 0] ++ rs.map V.int))) := Fr.new hq2
    have q2' : upd H1 q2 (.lst ([V.int 0] ++ rs.map V.int)) q2 = some (.lst ([V.int 0] ++ rs.map V.int)) := upd_same
    generalize upd H1 q2 (.lst ([V.int 0] ++ rs.map V.int)) = H2 at f2 q2'
    have S2 := S1.keep f2 (by simp)
    have f2 := f1.trans f2
    refine ⟨_, rfl, sp, _, dx, _, _, rfl, S2.sp, W.C_Space, W.na_Space__held, rfl, ?_⟩
    refine Or.inl ⟨q2, hd, _, _, rfl, rfl, q2', S2.hd, (by rw [List.length_append, List.length_map, List.length_map, sizeLine_eq]; show 1 + rs.length + hs.length ≤ _; omega), fun q3 hq3 => ?_⟩
    have e : [V.int 0] ++ rs.map V.int ++ hs.map V.int = (0 :: (rs ++ hs)).map V.int := by rw [List.map_cons, List.map_append]; rfl
    rw [e]
    exact k q3 _ upd_same (by
      cases e : H q3 with
      | none => rfl
      | some o => rw [f2 _ _ e (by simp)] at hq3; cases hq3) (f2.trans (Fr.new hq3))
def sp_sroot : Addr → Sp := fun C vs H Q _ => ∃ sp dx st pr rt hd al co rs hs, ∃ (k : Nat) (x : Int), vs = [.ref sp, .int (k : Int), .int x] ∧ SpaceAt H C sp dx st pr rt hd al co rs hs ∧ k < rs.length ∧ Q .non (upd H rt (.lst ((rs.set k x).map V.int)))
theorem ok_Space_set_root (W : WT P K mg base) : FnOk P w K mg base CX0 1 W.f_Space_set_root W.fd_Space_set_root ["self", "k", "word"] (sp_sroot W.c_Space) := by
  refine W.F_Space_set_root.ok sc_Space_set_root (fun vs H Q E h => ?_) (fun cdv A outer s H vs Q E hr h => ?_)
  · obtain ⟨sp, dx, st, pr, rt, hd, al, co, rs, hs, n, x, rfl, _⟩ := h
    rfl
  · obtain ⟨sp, dx, st, pr, rt, hd, al, co, rs, hs, n, x, rfl, S, h1, k⟩ := h
    have hu1 := hu_of hr
    have hu64 := hu64_of hr
    refine ⟨_, (pss_one (ps_asg (pv 2) (pg_sub (pe_fld (pv 0) rfl) (pv 1) set_list))), ?_⟩
    refine ⟨_, rfl, ?_⟩
    refine ⟨_, rfl, sp, _, dx, _, _, rfl, S.sp, W.C_Space, W.na_Space__roots, rfl, ?_⟩
    refine ⟨_, rfl, rt, _, _, n, rfl, rfl, S.rt, ixN_nat (by rw [List.length_map]; exact h1), ?_⟩
    rw [set_int]
    exact k
def sp_hold : Addr → Sp := fun C vs H Q _ => ∃ sp dx st pr rt hd al co rs hs, ∃ x : Int, vs = [.ref sp, .int x] ∧ SpaceAt H C sp dx st pr rt hd al co rs hs ∧ hs.length ≤ 1000 ∧ Q (.int x) (upd H hd (.lst ((hs ++ [x]).map V.int)))
theorem ok_Space_hold (W : WT P K mg base) : FnOk P w K mg base CX0 1 W.f_Space_hold W.fd_Space_hold ["self", "word"] (sp_hold W.c_Space) := by
  refine W.F_Space_hold.ok sc_Space_hold (fun vs H Q E h => ?_) (fun cdv A outer s H vs Q E hr h => ?_)
  · obtain ⟨sp, dx, st, pr, rt, hd, al, co, rs, hs, x, rfl, _⟩ := h
    rfl
  · obtain ⟨sp, dx, st, pr, rt, hd, al, co, rs, hs, x, rfl, S, h1, k⟩ := h
    have hu1 := hu_of hr
    have hu64 := hu64_of hr
    refine ⟨_, (pss_cons (ps_expr (pe_bm PySem.F.plainAttrs_list PySem.F.slot_list_append PySem.F.type_list_append mt_append (pe_fld (pv 0) rfl) (pa_cons (pv 1) pa_nil)))
      (pss_one (ps_ret (pv 1)))), ?_⟩
    refine ⟨_, rfl, sp, _, dx, _, _, rfl, S.sp, W.C_Space, W.na_Space__held, rfl, Or.inl ⟨rfl, _, SqL.of S.hd⟩, ?_⟩
    refine ⟨_, rfl, hd, _, _, rfl, rfl, S.hd, (by rw [List.length_map, sizeLine_eq]; omega), ?_⟩
    rw [show hs.map V.int ++ [V.int x] = (hs ++ [x]).map V.int by rw [List.map_append]; rfl]
    exact ⟨_, rfl, k⟩
end

end LX
namespace LX
open PySem PySem.Spec PyProof.Rows L2 NdefX
section
variable {P : Program} {w : World} {K : PySem.W.Frag} {mg : Str → Option Value} {base : Heap}
def sp_objof : Addr → Addr → Sp := fun CS C vs H Q _ => ∃ sp dxs st pr rt hd al co rs hs dx wl pl room entries least O kvs, ∃ x : Int, vs = [.ref sp, .int x] ∧ SpaceAt H CS sp dxs st pr rt hd al co rs hs ∧ StoreAt H C st dx wl pl room entries least (flat O) kvs ∧ Good O kvs least ∧
  (x % 2 = 0 → Live O (x / 2) → Q (.int (x / 2)) H) ∧ (¬ (x % 2 = 0 ∧ Live O (x / 2)) → Q .non H)
theorem ok_object_of (W : WT P K mg base) : FnOk P w K mg base CX0 3 W.f_object_of W.fd_object_of ["space", "word"] (sp_objof W.c_Space W.c_Store) := by
  refine W.F_object_of.ok sc_object_of (fun vs H Q E h => ?_) (fun cdv A outer s H vs Q E hr h => ?_)
  · obtain ⟨sp, dxs, st, pr, rt, hd, al, co, rs, hs, dx, wl, pl, room, entries, least, O, kvs, x, rfl, _⟩ := h
    rfl
  · obtain ⟨sp, dxs, st, pr, rt, hd, al, co, rs, hs, dx, wl, pl, room, entries, least, O, kvs, x, rfl, S, T, G, k1, k2⟩ := h
    have hu1 := hu_of hr
    have hu64 := hu64_of hr
    refine ⟨_, (pss_cons (ps_if (PW.pt (pw_and (pt_truth (pe_call (ok_is_ref W) (hr.mono (by decide)) rfl W.g_is_ref W.F_is_ref.kp W.b_is_ref .nil pass0 (pa_cons (pv 1) pa_nil)) (by intro _; rfl)) (pw_and1 (pt_truth (pe_meth (pe_fld (pv 0) rfl) W.C_Store W.m_Store_exists (ok_Store_exists W) (hr.mono (by decide)) W.b_Store_exists .nil pass0 (pa_cons (pe_call (ok_ref_of W) (hr.mono (by decide)) rfl W.g_ref_of W.F_ref_of.kp W.b_ref_of .nil pass0 (pa_cons (pv 1) pa_nil)) pa_nil)) (by intro _; rfl))))) (pss_one (ps_ret (pe_call (ok_ref_of W) (hr.mono (by decide)) rfl W.g_ref_of W.F_ref_of.kp W.b_ref_of .nil pass0 (pa_cons (pv 1) pa_nil)))) pss_nil)
      (pss_one (ps_ret pe_non))), ?_⟩
    refine ⟨_, rfl, x, rfl, ?_⟩
    refine ⟨_, rfl, ?_⟩
    refine iteD (fun h1 => ?_) (fun h1 => k2 fun z => h1 z.1)
    refine ⟨_, rfl, sp, _, dxs, _, _, rfl, S.sp, W.C_Space, W.na_Space_store, rfl, ?_⟩
    refine ⟨st, dx, _, rfl, T.st, rfl, ?_⟩
    refine ⟨_, rfl, x, rfl, h1, ?_⟩
    refine ⟨st, dx, wl, pl, room, entries, least, flat O, kvs, x / 2, rfl, T, ?_⟩
    refine ⟨_, rfl, ?_⟩
    cases e : (valV kvs (.inl (x / 2))).isSome with
    | true =>
      refine iteT ?_
      exact ⟨_, rfl, x, rfl, h1, k1 h1 ((G.iff _).mp e)⟩
    | false =>
      refine iteF ?_
      exact k2 fun z => by rw [(G.iff _).mpr z.2] at e; cases e
/-- what a thing holds: its kind, its contents -/
def rowOf (o : Ob) : List Int := o.kind :: o.sl
def sp_rowof : Addr → Addr → Sp := fun CS C vs H Q _ => ∃ sp dxs st pr rt hd al co rs hs dx wl pl room entries least O kvs, ∃ (i : Nat) (o : Ob), vs = [.ref sp, .int o.num] ∧ SpaceAt H CS sp dxs st pr rt hd al co rs hs ∧ StoreAt H C st dx wl pl room entries least (flat O) kvs ∧ Good O kvs least ∧ O[i]? = some o ∧ o.live = true ∧ o.sl.length ≤ 1000 ∧
  ∀ q H', H q = none → H' q = some (.lst ((rowOf o).map V.int)) → Fr [] H H' → Q (.ref q) H'
theorem ok_row_of (W : WT P K mg base) : FnOk P w K mg base CX0 3 W.f_row_of W.fd_row_of ["space", "number"] (sp_rowof W.c_Space W.c_Store) := by
  refine W.F_row_of.ok sc_row_of (fun vs H Q E h => ?_) (fun cdv A outer s H vs Q E hr h => ?_)
  · obtain ⟨sp, dxs, st, pr, rt, hd, al, co, rs, hs, dx, wl, pl, room, entries, least, O, kvs, i, o, rfl, _⟩ := h
    rfl
  · obtain ⟨sp, dxs, st, pr, rt, hd, al, co, rs, hs, dx, wl, pl, room, entries, least, O, kvs, i, o, rfl, S, T, G, ho, hl, hz, k⟩ := h
    have hu1 := hu_of hr
    have hu64 := hu64_of hr
    have hlt := off_lt ho
    refine ⟨_, (pss_one (ps_ret (pe_op op_addU (pe_lst (pa_cons (pe_meth (pe_fld (pv 0) rfl) W.C_Store W.m_Store_kind (ok_Store_kind W) (hr.mono (by decide)) W.b_Store_kind .nil pass0 (pa_cons (pv 1) pa_nil)) pa_nil)) (pe_meth (pe_fld (pv 0) rfl) W.C_Store W.m_Store_slots (ok_Store_slots W) (hr.mono (by decide)) W.b_Store_slots .nil pass0 (pa_cons (pv 1) pa_nil))))), ?_⟩
    refine ⟨_, rfl, sp, _, dxs, _, _, rfl, S.sp, W.C_Space, W.na_Space_store, rfl, ?_⟩
    refine ⟨st, dx, _, rfl, T.st, rfl, ?_⟩
    refine ⟨_, rfl, ?_⟩
    refine ⟨st, dx, wl, pl, room, entries, least, flat O, kvs, o.num, off O i, o.kind, rfl, T, G.at ho hl, flat_kind ho, ?_⟩
    refine ⟨(by show 1 ≤ sizeLine; decide), fun q1 hq1 => ?_⟩
    have f1 : Fr [] H (upd H q1 (.lst [.int o.kind])) := Fr.new hq1
    have e1 : upd H q1 (.lst [.int o.kind]) q1 = some (.lst [.int o.kind]) := upd_same
    generalize upd H q1 (.lst [.int o.kind]) = H1 at f1 e1
    have S1 := S.keep f1 (by simp)
    have T1 := T.keep f1 (by simp)
    refine ⟨_, rfl, sp, _, dxs, _, _, rfl, S1.sp, W.C_Space, W.na_Space_store, rfl, ?_⟩
    refine ⟨st, dx, _, rfl, T1.st, rfl, ?_⟩
    refine ⟨_, rfl, ?_⟩
    refine ⟨st, dx, wl, pl, room, entries, least, flat O, kvs, o.num, off O i, o.sl.length, rfl, T1, G.at ho hl, flat_size ho, by omega, fun q2 hq2 => ?_⟩
    rw [flat_slots ho]
    have f2 : Fr [] H1 (upd H1 q2 (.lst (o.sl.map V.int))) := Fr.new hq2
    have e2 : upd H1 q2 (.lst (o.sl.map V.int)) q2 = some (.lst (o.sl.map V.int)) := upd_same
    generalize upd H1 q2 (.lst (o.sl.map V.int)) = H2 at f2 e2
    refine Or.inl ⟨q1, q2, _, _, rfl, rfl, f2 _ _ e1 (by simp), e2, (by rw [List.length_map, sizeLine_eq]; show 1 + o.sl.length ≤ _; omega), fun q3 hq3 => ?_⟩
    have f12 := f1.trans f2
    refine k q3 _ ?_ upd_same (f12.trans (Fr.new hq3))
    cases e : H q3 with
    | none => rfl
    | some u => rw [f12 _ _ e (by simp)] at hq3; cases hq3
end

end LX
namespace LX
open PySem PySem.Spec PyProof.Rows L2 NdefX
section
variable {P : Program} {w : World} {K : PySem.W.Frag} {mg : Str → Option Value} {base : Heap}
/-- the space's own places stand apart from the store's -/
structure ApartS (sp st pr rt hd wl : Addr) : Prop where
  a : sp ≠ st
  p : pr ≠ wl
  r : rt ≠ wl
  h : hd ≠ wl
  b : pr ≠ rt
  c : pr ≠ hd
  d : rt ≠ hd
theorem SpaceAt.store {H H' : Hp} {CS C sp dxs st pr rt hd dx wl pl : Addr} {al co room entries least : Int} {rs hs ws : List Int} {kvs : List (Key × V)} (S : SpaceAt H CS sp dxs st pr rt hd al co rs hs) (T : StoreAt H C st dx wl pl room entries least ws kvs) (N : ApartS sp st pr rt hd wl) (f : Fr [st, wl, pl] H H') : SpaceAt H' CS sp dxs st pr rt hd al co rs hs := by
  refine S.keep f (fun b hb => ?_)
  have l1 : ∀ b xs, H b = some (.lst xs) → b ≠ wl → b ∉ [st, wl, pl] := fun b xs e n => by
    have := ne_of e T.st (by intro z; cases z)
    have := ne_of e T.pl (by intro z; cases z)
    simp_all
  simp only [List.mem_cons, List.not_mem_nil, or_false] at hb
  rcases hb with e | e | e | e
  · rw [e]
    have := ne_of S.sp T.wl (by intro z; cases z)
    have := ne_of S.sp T.pl (by intro z; cases z)
    have := N.a
    simp_all
  · rw [e]; exact l1 _ _ S.pr N.p
  · rw [e]; exact l1 _ _ S.rt N.r
  · rw [e]; exact l1 _ _ S.hd N.h
def sp_snew : Addr → Addr → Sp := fun CS C vs H Q _ => ∃ sp dxs st pr rt hd al co rs hs dx wl pl room entries least ws kvs, ∃ (x : Int) (z : Nat), vs = [.ref sp, .int x, .int (z : Int)] ∧ SpaceAt H CS sp dxs st pr rt hd al co rs hs ∧ StoreAt H C st dx wl pl room entries least ws kvs ∧ ApartS sp st pr rt hd wl ∧ Seen kvs least ∧ (kvs.length : Int) < entries ∧ entries ≤ 100000 ∧ (ws.length : Int) + 3 + z ≤ room ∧ room ≤ 100000 ∧
  ∀ m H', SpaceAt H' CS sp dxs st pr rt hd al co rs hs → StoreAt H' C st dx wl pl room entries m (ws ++ (m :: (z : Int) :: x :: List.replicate z 0)) (putK kvs (.inl m) (.int (ws.length : Int))) → Fr [st, wl, pl] H H' → Seen kvs m → valV kvs (.inl m) = none → Q (.int m) H'
theorem ok_Space_fitted (W : WT P K mg base) : FnOk P w K mg base CX0 6 W.f_Space_fitted W.fd_Space_fitted ["self", "kind", "size"] (sp_snew W.c_Space W.c_Store) := by
  refine W.F_Space_fitted.ok sc_Space_fitted (fun vs H Q E h => ?_) (fun cdv A outer s H vs Q E hr h => ?_)
  · obtain ⟨sp, dxs, st, pr, rt, hd, al, co, rs, hs, dx, wl, pl, room, entries, least, ws, kvs, x, z, rfl, _⟩ := h
    rfl
  · obtain ⟨sp, dxs, st, pr, rt, hd, al, co, rs, hs, dx, wl, pl, room, entries, least, ws, kvs, x, z, rfl, S, T, N, h1, h2, h3, h4, h5, k⟩ := h
    have hu1 := hu_of hr
    have hu64 := hu64_of hr
    refine ⟨_, (pss_cons (ps_try_thru0 (pss_one (ps_ret (pe_meth (pe_fld (pv 0) rfl) W.C_Store W.m_Store_allocate (ok_Store_allocate W) (hr.mono (by decide)) W.b_Store_allocate .nil pass0 (pa_cons (pv 1) (pa_cons (pv 2) pa_nil))))))
      (pss_one (ps_ret (pe_meth (pe_fld (pv 0) rfl) W.C_Store W.m_Store_allocate (ok_Store_allocate W) (hr.mono (by decide)) W.b_Store_allocate .nil pass0 (pa_cons (pv 1) (pa_cons (pv 2) pa_nil)))))), ?_⟩
    refine ⟨_, rfl, sp, _, dxs, _, _, rfl, S.sp, W.C_Space, W.na_Space_store, rfl, ?_⟩
    refine ⟨st, dx, _, rfl, T.st, rfl, ?_⟩
    refine ⟨_, rfl, _, rfl, ?_⟩
    exact ⟨st, dx, wl, pl, room, entries, least, ws, kvs, x, z, rfl, T, h1, h2, h3, h4, h5, fun m H' T' f hs hm => k m H' (S.store T N f) T' f hs hm⟩
def sp_snew2 : Addr → Addr → Sp := fun CS C vs H Q _ => ∃ sp dxs st pr rt hd al co rs hs dx wl pl room entries least ws kvs, ∃ (x : Int) (z : Nat), vs = [.ref sp, .int x, .int (z : Int)] ∧ SpaceAt H CS sp dxs st pr rt hd al co rs hs ∧ StoreAt H C st dx wl pl room entries least ws kvs ∧ ApartS sp st pr rt hd wl ∧ Seen kvs least ∧ (kvs.length : Int) < entries ∧ entries ≤ 100000 ∧ (ws.length : Int) + 3 + z ≤ room ∧ room ≤ 100000 ∧
  ∀ m H', SpaceAt H' CS sp dxs st pr rt hd (al + 1) co rs hs → StoreAt H' C st dx wl pl room entries m (ws ++ (m :: (z : Int) :: x :: List.replicate z 0)) (putK kvs (.inl m) (.int (ws.length : Int))) → Fr [sp, st, wl, pl] H H' → Seen kvs m → valV kvs (.inl m) = none → Q (.int m) H'
theorem SpaceAt.counts {H : Hp} {CS C sp dxs st pr rt hd dx wl pl : Addr} {al co al' co' room entries least : Int} {rs hs ws : List Int} {kvs : List (Key × V)} (S : SpaceAt H CS sp dxs st pr rt hd al co rs hs) (T : StoreAt H C st dx wl pl room entries least ws kvs) (N : ApartS sp st pr rt hd wl) :
    SpaceAt (upd H sp (.ins CS dxs (pF st pr rt hd al' co'))) CS sp dxs st pr rt hd al' co' rs hs ∧ StoreAt (upd H sp (.ins CS dxs (pF st pr rt hd al' co'))) C st dx wl pl room entries least ws kvs := by
  have f : Fr [sp] H (upd H sp (.ins CS dxs (pF st pr rt hd al' co'))) := Fr.at (by simp)
  have i1 := ne_of S.pr S.sp (by intro z; cases z)
  have i2 := ne_of S.rt S.sp (by intro z; cases z)
  have i3 := ne_of S.hd S.sp (by intro z; cases z)
  have i4 := ne_of T.wl S.sp (by intro z; cases z)
  have i5 := ne_of T.pl S.sp (by intro z; cases z)
  have := N.a
  refine ⟨⟨upd_same, f _ _ S.pr (by simpa using i1), f _ _ S.rt (by simpa using i2), f _ _ S.hd (by simpa using i3)⟩, T.keep f (fun b hb => ?_)⟩
  simp only [List.mem_cons, List.not_mem_nil, or_false] at hb ⊢
  rcases hb with e | e | e
  · rw [e]; exact this.symm
  · rw [e]; exact i4
  · rw [e]; exact i5
theorem SpaceAt.storeN {H H' : Hp} {CS C sp dxs st pr rt hd dx wl pl : Addr} {al co room entries least : Int} {rs hs ws : List Int} {kvs : List (Key × V)} (S : SpaceAt H CS sp dxs st pr rt hd al co rs hs) (T : StoreAt H C st dx wl pl room entries least ws kvs) (N : ApartS sp st pr rt hd wl) (f : FrN [st, wl, pl] H H') : SpaceAt H' CS sp dxs st pr rt hd al co rs hs := by
  have l1 : ∀ b xs, H b = some (.lst xs) → b ≠ wl → b ∉ [st, wl, pl] := fun b xs e n => by
    have := ne_of e T.st (by intro z; cases z)
    have := ne_of e T.pl (by intro z; cases z)
    simp_all
  have := ne_of S.sp T.wl (by intro z; cases z)
  have := ne_of S.sp T.pl (by intro z; cases z)
  have := N.a
  exact ⟨f _ _ S.sp (by simp_all) (by intro ps z; cases z), f.lst S.pr (l1 _ _ S.pr N.p), f.lst S.rt (l1 _ _ S.rt N.r), f.lst S.hd (l1 _ _ S.hd N.h)⟩
def sp_cwith (CS C PT : Addr) : Sp := fun vs H Q _ => ∃ sp dxs st pr rt hd al co rs hs dx wl pl room entries least O kvs, ∃ x : Int, vs = [.ref sp, .int x] ∧ SpaceAt H CS sp dxs st pr rt hd al co rs hs ∧ StoreAt H C st dx wl pl room entries least (flat O) kvs ∧ ApartS sp st pr rt hd wl ∧ Good O kvs least ∧ (∀ o ∈ O, o.sl.length ≤ 39) ∧ (∀ o ∈ O, 0 ≤ o.num) ∧ O.length ≤ 80 ∧ rs.length ≤ 20 ∧ hs.length ≤ 20 ∧ LamX.TabS H PT qLam ∧
  ∀ F H' wl' pl' least', F.Nodup → (∀ n, n ∈ F ↔ Reach O ((0 :: (rs ++ hs)) ++ [x]) n) → SpaceAt H' CS sp dxs st pr rt hd al (co + 1) rs hs → StoreAt H' C st dx wl' pl' room entries least' (flat (kept O F)) (pD (tbl (kept O F))) → Good (kept O F) (pD (tbl (kept O F))) least' → LamX.TabS H' PT qLam → FrN [sp, st, wl, pl] H H' → H wl' = none → H pl' = none → Q (.int (((O.filter (·.live)).length : Int) - (F.length : Int))) H'
theorem ok_Space_collect_with (W : WT P K mg base) : FnOk P w K mg base CX0 5 W.f_Space_collect_with W.fd_Space_collect_with ["self", "word"] (sp_cwith W.c_Space W.c_Store W.PT_Store_close_up) := by
  refine W.F_Space_collect_with.ok sc_Space_collect_with (fun vs H Q E h => ?_) (fun cdv A outer s H vs Q E hr h => ?_)
  · obtain ⟨sp, dxs, st, pr, rt, hd, al, co, rs, hs, dx, wl, pl, room, entries, least, O, kvs, x, rfl, _⟩ := h
    rfl
  · obtain ⟨sp, dxs, st, pr, rt, hd, al, co, rs, hs, dx, wl, pl, room, entries, least, O, kvs, x, rfl, S, T, N, G, sz, nn, len, h1, h2, tab, k⟩ := h
    have hu1 := hu_of hr
    have hu64 := hu64_of hr
    refine ⟨_, (pss_cons (ps_fld (pv 0) (pe_op op_addU (pe_fld (pv 0) rfl) pe_int) rfl)
      (pss_one (ps_ret (pe_call (ok_collect W) (hr.mono (by decide)) rfl W.g_collect_collecting W.F_collect.kp W.b_collect .nil pass0 (pa_cons (pe_fld (pv 0) rfl) (pa_cons (pe_op op_addU (pe_meth0 (pv 0) W.C_Space W.m_Space_all_roots (ok_Space_all_roots W) (hr.mono (by decide)) W.b_Space_all_roots .nil pass0 ) (pe_lst (pa_cons (pv 1) pa_nil))) pa_nil)))))), ?_⟩
    refine ⟨_, rfl, sp, _, dxs, _, _, rfl, S.sp, W.C_Space, W.na_Space_collections, rfl, ?_⟩
    refine ⟨_, rfl, sp, _, dxs, _, rfl, S.sp, W.C_Space, W.na_Space_collections, (by show 8 < 1000; decide), ?_⟩
    obtain ⟨S1, T1⟩ := S.counts (al' := al) (co' := co + 1) T N
    have f1 : Fr [sp] H (upd H sp (.ins W.c_Space dxs (pF st pr rt hd al (co + 1)))) := Fr.at (by simp)
    rw [show putF "collections" (V.int (co + 1)) (pF st pr rt hd al co) = pF st pr rt hd al (co + 1) from rfl]
    have tab1 := tab_out tab f1 (fun b hb => by
      have e : b = sp := by simpa using hb
      rw [e]
      exact ⟨_, S.sp, (by intro ps z; cases z), (by intro ps z; cases z)⟩)
    generalize upd H sp (.ins W.c_Space dxs (pF st pr rt hd al (co + 1))) = H1 at S1 T1 f1 tab1
    refine ⟨_, rfl, sp, _, dxs, _, _, rfl, S1.sp, W.C_Space, W.na_Space_store, rfl, ?_⟩
    refine ⟨_, rfl, sp, dxs, _, rfl, S1.sp, rfl, ?_⟩
    refine ⟨sp, dxs, st, pr, rt, hd, al, co + 1, rs, hs, rfl, S1, by omega, by omega, fun l H2 hl hl0 f2 => ?_⟩
    refine ⟨_, rfl, (by show 1 ≤ sizeLine; decide), fun q hq => ?_⟩
    have f3 : Fr [] H2 (upd H2 q (.lst [.int x])) := Fr.new hq
    have q3 : upd H2 q (.lst [.int x]) q = some (.lst [.int x]) := upd_same
    generalize upd H2 q (.lst [.int x]) = H3 at f3 q3
    refine Or.inl ⟨l, q, _, _, rfl, rfl, f3 _ _ hl (by simp), q3, (by rw [List.length_map, sizeLine_eq, List.length_cons, List.length_append]; show rs.length + hs.length + 1 + 1 ≤ _; omega), fun ra hra => ?_⟩
    have e3 : (0 :: (rs ++ hs)).map V.int ++ [V.int x] = ((0 :: (rs ++ hs)) ++ [x]).map V.int := by rw [List.map_append]; rfl
    rw [e3]
    have f4 : Fr [] H3 (upd H3 ra (.lst (((0 :: (rs ++ hs)) ++ [x]).map V.int))) := Fr.new hra
    have r4 : upd H3 ra (.lst (((0 :: (rs ++ hs)) ++ [x]).map V.int)) ra = some (.lst (((0 :: (rs ++ hs)) ++ [x]).map V.int)) := upd_same
    generalize upd H3 ra (.lst (((0 :: (rs ++ hs)) ++ [x]).map V.int)) = H4 at f4 r4
    have f24 := (f2.trans f3).trans f4
    have T4 := T1.keep f24 (by simp)
    have S4 := S1.keep f24 (by simp)
    refine ⟨st, dx, wl, pl, room, entries, least, O, kvs, ra, _, rfl, T4, G, sz, nn, len, r4, (by rw [List.length_append, List.length_cons, List.length_append]; show rs.length + hs.length + 1 + 1 ≤ _; omega), tab1.ext (fun b o e => f24 b o e (by simp)), fun F H' wl' pl' least' nd hF T5 G5 tab5 f5 w5 p5 => ?_⟩
    have f15 : FrN [sp, st, wl, pl] H H' := (((f1.mono (by simp)).trans (f24.mono (by simp))).n).trans (f5.mono (by simp))
    have none1 : ∀ b, H4 b = none → H b = none := fun b hb => by
      cases e : H b with
      | none => rfl
      | some o =>
        exfalso
        by_cases hs : b = sp
        · rw [hs, S4.sp] at hb; cases hb
        · rw [f24 _ _ (f1 _ _ e (by simpa using hs)) (by simp)] at hb; cases hb
    exact k F H' wl' pl' least' nd hF (S4.storeN T4 N f5) T5 G5 tab5 f15 (none1 _ w5) (none1 _ p5)
theorem ok_Space_new (W : WT P K mg base) : FnOk P w K mg base CX0 7 W.f_Space_new W.fd_Space_new ["self", "kind", "size"] (sp_snew2 W.c_Space W.c_Store) := by
  refine W.F_Space_new.ok sc_Space_new (fun vs H Q E h => ?_) (fun cdv A outer s H vs Q E hr h => ?_)
  · obtain ⟨sp, dxs, st, pr, rt, hd, al, co, rs, hs, dx, wl, pl, room, entries, least, ws, kvs, x, z, rfl, _⟩ := h
    rfl
  · obtain ⟨sp, dxs, st, pr, rt, hd, al, co, rs, hs, dx, wl, pl, room, entries, least, ws, kvs, x, z, rfl, S, T, N, h1, h2, h3, h4, h5, k⟩ := h
    have hu1 := hu_of hr
    have hu64 := hu64_of hr
    refine ⟨_, (pss_cons (ps_fld (pv 0) (pe_op op_addU (pe_fld (pv 0) rfl) pe_int) rfl)
      (pss_cons (ps_if (pt_cmpR op_isnotU (pe_fld (pv 0) rfl) pe_non (by first | exact nomark _ | rfl)) (pss_one (ps_ret (pe_meth (pe_fld (pv 0) rfl) W.C_Store W.m_Store_allocate (ok_Store_allocate W) (hr.mono (by decide)) W.b_Store_allocate .nil pass0 (pa_cons (pv 1) (pa_cons (pv 2) pa_nil))))) pss_nil)
      (pss_cons (ps_if (PW.pt (pw_or (pt_truth (pe_fld (pv 0) rfl) (by intro _; rfl)) (pw_or1 (pt_cmpR (op_inU hu1) (pe_fld (pv 0) rfl) (pe_fld (pv 0) rfl) (by first | exact nomark _ | rfl))))) (pss_one (ps_expr (pe_meth (pv 0) W.C_Space W.m_Space_collect_with (ok_Space_collect_with W) (hr.mono (by decide)) W.b_Space_collect_with .nil pass0 (pa_cons (pv 1) pa_nil)))) pss_nil)
      (pss_one (ps_ret (pe_meth (pv 0) W.C_Space W.m_Space_fitted (ok_Space_fitted W) (hr.mono (by decide)) W.b_Space_fitted .nil pass0 (pa_cons (pv 1) (pa_cons (pv 2) pa_nil)))))))), ?_⟩
    refine ⟨_, rfl, sp, _, dxs, _, _, rfl, S.sp, W.C_Space, W.na_Space_allocations, rfl, ?_⟩
    refine ⟨_, rfl, sp, _, dxs, _, rfl, S.sp, W.C_Space, W.na_Space_allocations, (by show 8 < 1000; decide), ?_⟩
    obtain ⟨S1, T1⟩ := S.counts (al' := al + 1) (co' := co) T N
    have f1 : Fr [sp] H (upd H sp (.ins W.c_Space dxs (pF st pr rt hd (al + 1) co))) := Fr.at (by simp)
    rw [show putF "allocations" (V.int (al + 1)) (pF st pr rt hd al co) = pF st pr rt hd (al + 1) co from rfl]
    generalize upd H sp (.ins W.c_Space dxs (pF st pr rt hd (al + 1) co)) = H1 at S1 T1 f1
    refine ⟨_, rfl, sp, _, dxs, _, _, rfl, S1.sp, W.C_Space, W.na_Space__saved, rfl, ?_⟩
    refine ⟨_, rfl, ?_⟩
    refine iteND (fun h => absurd rfl h) (fun _ => ?_)
    refine ⟨_, rfl, sp, _, dxs, _, _, rfl, S1.sp, W.C_Space, W.na_Space_always, rfl, ?_⟩
    refine ⟨_, rfl, iteF ?_⟩
    refine ⟨_, rfl, sp, _, dxs, _, _, rfl, S1.sp, W.C_Space, W.na_Space_allocations, rfl, ?_⟩
    refine ⟨_, rfl, sp, _, dxs, _, _, rfl, S1.sp, W.C_Space, W.na_Space_pressure, rfl, ?_⟩
    refine Or.inl ⟨_, Or.inl (SqL.of S1.pr), rfl, rfl, ?_⟩
    refine ⟨_, rfl, iteF ?_⟩
    refine ⟨_, rfl, sp, dxs, _, rfl, S1.sp, rfl, ?_⟩
    refine ⟨_, rfl, _, rfl, ?_⟩
    exact ⟨sp, dxs, st, pr, rt, hd, al + 1, co, rs, hs, dx, wl, pl, room, entries, least, ws, kvs, x, z, rfl, S1, T1, N, h1, h2, h3, h4, h5, fun m H' S' T' f hs hm => k m H' S' T' ((f1.mono (by simp)).trans (f.mono (by simp))) hs hm⟩
def sp_coll (CS C PT : Addr) : Sp := fun vs H Q _ => ∃ sp dxs st pr rt hd al co rs hs dx wl pl room entries least O kvs, vs = [.ref sp] ∧ SpaceAt H CS sp dxs st pr rt hd al co rs hs ∧ StoreAt H C st dx wl pl room entries least (flat O) kvs ∧ ApartS sp st pr rt hd wl ∧ Good O kvs least ∧ (∀ o ∈ O, o.sl.length ≤ 39) ∧ (∀ o ∈ O, 0 ≤ o.num) ∧ O.length ≤ 80 ∧ rs.length ≤ 20 ∧ hs.length ≤ 20 ∧ LamX.TabS H PT qLam ∧
  ∀ F H' wl' pl' least', F.Nodup → (∀ n, n ∈ F ↔ Reach O ((0 :: (rs ++ hs)) ++ [0]) n) → SpaceAt H' CS sp dxs st pr rt hd al (co + 1) rs hs → StoreAt H' C st dx wl' pl' room entries least' (flat (kept O F)) (pD (tbl (kept O F))) → Good (kept O F) (pD (tbl (kept O F))) least' → LamX.TabS H' PT qLam → FrN [sp, st, wl, pl] H H' → H wl' = none → H pl' = none → Q (.int (((O.filter (·.live)).length : Int) - (F.length : Int))) H'
theorem ok_Space_collect (W : WT P K mg base) : FnOk P w K mg base CX0 6 W.f_Space_collect W.fd_Space_collect ["self"] (sp_coll W.c_Space W.c_Store W.PT_Store_close_up) := by
  refine W.F_Space_collect.ok sc_Space_collect (fun vs H Q E h => ?_) (fun cdv A outer s H vs Q E hr h => ?_)
  · obtain ⟨sp, dxs, st, pr, rt, hd, al, co, rs, hs, dx, wl, pl, room, entries, least, O, kvs, rfl, _⟩ := h
    rfl
  · obtain ⟨sp, dxs, st, pr, rt, hd, al, co, rs, hs, dx, wl, pl, room, entries, least, O, kvs, rfl, S, T, N, G, sz, nn, len, h1, h2, tab, k⟩ := h
    have hu1 := hu_of hr
    have hu64 := hu64_of hr
    refine ⟨_, (pss_cons (ps_if (pt_cmpR op_isnotU (pe_fld (pv 0) rfl) pe_non (by first | exact nomark _ | rfl)) (pss_one ps_never) pss_nil)
      (pss_one (ps_ret (pe_meth (pv 0) W.C_Space W.m_Space_collect_with (ok_Space_collect_with W) (hr.mono (by decide)) W.b_Space_collect_with .nil pass0 (pa_cons (pe_gi rfl W.g_NIL) pa_nil))))), ?_⟩
    refine ⟨_, rfl, sp, _, dxs, _, _, rfl, S.sp, W.C_Space, W.na_Space__saved, rfl, ?_⟩
    refine ⟨_, rfl, ?_⟩
    refine iteND (fun h => absurd rfl h) (fun _ => ?_)
    refine ⟨_, rfl, sp, dxs, _, rfl, S.sp, rfl, ?_⟩
    exact ⟨sp, dxs, st, pr, rt, hd, al, co, rs, hs, dx, wl, pl, room, entries, least, O, kvs, 0, rfl, S, T, N, G, sz, nn, len, h1, h2, tab, k⟩
end

end LX
namespace LX
open PySem PySem.Spec PyProof.Rows L2 NdefX
set_option hygiene false in
local macro_rules | `(tactic| k_memK) => `(tactic| first | exact W.na_Comparison_one | exact W.na_Comparison_other | exact W.na_Comparison_there | exact W.na_Comparison_back | exact W.na_Comparison_first | exact W.na_Store_room | exact W.na_Store_entries | exact W.na_Store_words | exact W.na_Store__places | exact W.na_Store__least | exact W.na_Space_store | exact W.na_Space_pressure | exact W.na_Space_always | exact W.na_Space_allocations | exact W.na_Space_collections | exact W.na_Space__roots | exact W.na_Space__held | exact W.na_Space__saved)
set_option hygiene false in
local macro_rules | `(tactic| k_ownIn) => `(tactic| first | exact W.C_Comparison | exact W.C_Store | exact W.C_Space)
local macro_rules | `(tactic| none_booked) => `(tactic| first | assumption | (refine Fr.g0 (by assumption) ?_; none_booked))
local macro_rules | `(tactic| one_sign) => `(tactic| repeat (first
  | refine Stp.h ?_
  | ((with_reducible refine' z_fld1 ?k0 ?k1 ?k2 ?k3 ?_); (case k0 => none_booked); (case k1 => k_ownIn); (case k2 => k_memK); (case k3 => rfl))
  | ((with_reducible refine' z_meth1 ?k0 ?k1 ?_); (case k0 => none_booked); (case k1 => rfl))
  | ((with_reducible refine' z_bmL ?k0 ?_); (case k0 => none_booked))
  | ((with_reducible refine' z_lenL ?k0 ?_); (case k0 => none_booked))
  | ((with_reducible refine' z_lenT ?k0 ?_); (case k0 => none_booked))
  | ((with_reducible refine' z_lenD ?k0 ?_); (case k0 => none_booked))
  | ((with_reducible refine' z_truL ?k0 ?_); (case k0 => none_booked))
  | ((with_reducible refine' z_truD ?k0 ?_); (case k0 => none_booked))
  | ((with_reducible refine' z_truT ?k0 ?_); (case k0 => none_booked))
  | ((with_reducible refine' z_inDIP ?k0 ?_); (case k0 => none_booked))
  | ((with_reducible refine' z_inDIN ?k0 ?_); (case k0 => none_booked))
  | ((with_reducible refine' z_inDfP ?k0 ?_); (case k0 => none_booked))
  | ((with_reducible refine' z_inDfN ?k0 ?_); (case k0 => none_booked))
  | ((with_reducible refine' z_iList1 ?k0 ?_); (case k0 => none_booked))
  | ((with_reducible refine' z_isi0 ?k0 ?k1 ?k2 ?_); (case k0 => exact (ClsV.ty _)); (case k1 => exact (TyX.base (TyOf.lst (by none_booked)))); (case k2 => first | exact kt_list_int | exact kt_list_bool | exact kt_list_str | exact kt_list_list | exact kt_list_tuple | exact kt_list_dict))
  | ((with_reducible refine' z_rI ?k0 ?_); (case k0 => first | exact (by decide : (0 : Int) < _) | exact ⟨by decide, by decide⟩ | exact ⟨by decide, by decide, by decide⟩ | (show (0 : Int) < _; omega)))
  | ((with_reducible refine' z_mulI ?k0 ?_); (case k0 => first | exact Or.inr ⟨by decide, by decide⟩ | exact Or.inl ⟨by decide, by decide⟩ | exact Or.inl ⟨by omega, by omega⟩ | exact Or.inr ⟨by omega, by omega⟩))))
local macro_rules | `(tactic| leaf_len) => `(tactic| (simp only [wipe, List.map_cons, List.map_nil, List.set_cons_zero, List.set_cons_succ]; one_sign; refine z_ok rfl ?_; one_sign))
section
variable {P : Program} {w : World} {K : PySem.W.Frag} {mg : Str → Option Value} {base : Heap}
def sp_spinit (CS C : Addr) : Sp := fun vs H Q _ => ∃ sp dxs, ∃ room entries : Int, vs = [.ref sp, .int room, .int entries] ∧ H sp = some (.ins CS dxs []) ∧
  ∀ H' st dx wl pl pr rt hd, SpaceAt H' CS sp dxs st pr rt hd 0 0 (List.replicate 16 0) [] → StoreAt H' C st dx wl pl room entries 0 [] [] → ApartS sp st pr rt hd wl → (∀ b o, H b = some o → b ≠ sp → H' b = some o) → (∀ b, b ∈ [st, wl, pl, pr, rt, hd] → H b = none) → Q .non H'
theorem ok_Space___init__ (W : WT P K mg base) : FnOk P w K mg base CX0 3 W.f_Space___init__ W.fd_Space___init__ ["self", "room", "entries"] (sp_spinit W.c_Space W.c_Store) := by
  refine W.F_Space___init__.ok sc_Space___init__ (fun vs H Q E h => by obtain ⟨sp, dxs, room, entries, rfl, hsp, k⟩ := h; rfl) (fun cdv A outer s H vs Q E hr h => ?_)
  obtain ⟨sp, dxs, room, entries, rfl, hsp, k⟩ := h
  have hu1 := hu_of hr
  have hu64 := hu64_of hr
  refine ⟨_, (pss_cons (ps_fld (pv 0) (pe_make W.M_Store (ok_Store___init__ W) (hr.mono (by decide)) rfl W.g_Store W.b_Store___init__ .nil pass0 (pa_cons (pv 1) (pa_cons (pv 2) pa_nil))) rfl)
      (pss_cons (ps_fld (pv 0) (pe_lst pa_nil) rfl)
      (pss_cons (ps_fld (pv 0) pe_bl rfl)
      (pss_cons (ps_fld (pv 0) pe_int rfl)
      (pss_cons (ps_fld (pv 0) pe_int rfl)
      (pss_cons (ps_fld (pv 0) (pe_op op_mulU (pe_lst (pa_cons (pe_gi rfl W.g_NIL) pa_nil)) (pe_gi rfl W.g_ROOTS)) rfl)
      (pss_cons (ps_fld (pv 0) (pe_lst pa_nil) rfl)
      (pss_one (ps_fld (pv 0) pe_non rfl))))))))), ?_⟩
  refine z_start (σ := [some _, some _, some _]) rfl ?_
  one_sign
  intro st dx hst hdx ndx
  have hx0 : upd H dx (.own st) st = none := by rw [upd_ne ndx.symm]; exact hst
  have f0 : Fr [] H (upd (upd H dx (.own st)) st (.ins W.c_Store dx [])) := (Fr.new hdx).trans (Fr.new hx0)
  refine ⟨st, dx, room, entries, rfl, upd_same, fun H1 wl pl T1 f1 hwl hpl => ⟨rfl, ?_⟩⟩
  have fS : Fr [] H H1 := fun b o e _ => f1 b o (f0.g0 e) (ne_of_none e hst)
  have s1 := fS.g0 hsp
  have m1 := ne_of s1 T1.wl (by intro z; cases z)
  have m2 := ne_of s1 T1.pl (by intro z; cases z)
  have nss : sp ≠ st := ne_of_none hsp hst
  have hwl0 := f0.none hwl
  have hpl0 := f0.none hpl
  have sT : ∀ b ∈ [st, wl, pl], b ∉ [sp] := fun b hb h => by
    have h : b = sp := by simpa using h
    subst h
    simp only [List.mem_cons, List.not_mem_nil, or_false] at hb
    rcases hb with e | e | e
    · exact nss e
    · exact m1 e
    · exact m2 e
  clear f1
  one_sign
  refine z_flds1 s1 W.C_Space W.na_Space_store (by show 0 < 1000; decide) fun H2 g2 s2 n2 => ?_
  have T2 := T1.keep g2 sT
  one_sign
  refine z_newL (by show 0 ≤ sizeLine; decide) fun pr H3 hpr f3 p3 => ?_
  have nwp : wl ≠ pr := ne_of_none T2.wl hpr
  have npr : sp ≠ pr := ne_of_none s2 hpr
  have hpr0 : H pr = none := fS.none (g2.noneF hpr (by simpa using npr.symm))
  have g3 := g2.trans (f3.mono (by simp))
  one_sign
  refine z_flds1 (f3.g0 s2) W.C_Space W.na_Space_pressure (by show 1 < 1000; decide) fun H4 f4 s4 n4 => ?_
  one_sign
  refine z_flds1 s4 W.C_Space W.na_Space_always (by show 2 < 1000; decide) fun H5 f5 s5 n5 => ?_
  one_sign
  refine z_flds1 s5 W.C_Space W.na_Space_allocations (by show 3 < 1000; decide) fun H6 f6 s6 n6 => ?_
  one_sign
  refine z_flds1 s6 W.C_Space W.na_Space_collections (by show 4 < 1000; decide) fun H7 f7 s7 n7 => ?_
  have f47 := ((f4.trans f5).trans f6).trans f7
  have p7 := f47.g p3 (by simpa using npr.symm)
  have g7 := g3.trans f47
  clear f4 f5 f6 f7 s4 s5 s6 f47
  one_sign
  refine z_newL (by show 1 ≤ sizeLine; decide) fun q H8 hq f8 q8 => ?_
  one_sign
  refine z_rep 16 q8 rfl (by decide) (by show 1 * 16 ≤ sizeLine; rw [sizeLine_eq]; decide) fun rt H9 hrt f9 r9 => ?_
  have f89 := f8.trans f9
  have hrt7 := f8.none hrt
  have nsr : sp ≠ rt := ne_of_none s7 hrt7
  have npt : pr ≠ rt := ne_of_none p7 hrt7
  have nwt : wl ≠ rt := ne_of_none (T1.keep g7 sT).wl hrt7
  have hrt0 : H rt = none := fS.none (g7.noneF hrt7 (by simpa using nsr.symm))
  have g9 := g7.trans (f89.mono (by simp))
  have r9 : H9 rt = some (.lst ((List.replicate 16 (0 : Int)).map V.int)) := r9
  one_sign
  refine z_flds1 (f89.g0 s7) W.C_Space W.na_Space__roots (by show 5 < 1000; decide) fun H10 f10 s10 n10 => ?_
  one_sign
  refine z_newL (by show 0 ≤ sizeLine; decide) fun hd H11 hhd f11 h11 => ?_
  have p10 := f10.g (f89.g0 p7) (by simpa using npr.symm)
  have r10 := f10.g r9 (by simpa using nsr.symm)
  have g10 := g9.trans f10
  have n1 : sp ≠ hd := ne_of_none s10 hhd
  have n2 : pr ≠ hd := ne_of_none p10 hhd
  have n3 : rt ≠ hd := ne_of_none r10 hhd
  have n4 : wl ≠ hd := ne_of_none (T1.keep g10 sT).wl hhd
  have hhd0 : H hd = none := fS.none (g10.noneF hhd (by simpa using n1.symm))
  one_sign
  refine z_flds1 (f11.g0 s10) W.C_Space W.na_Space__held (by show 6 < 1000; decide) fun H12 f12 s12 n12 => ?_
  one_sign
  refine z_flds1 s12 W.C_Space W.na_Space__saved (by show 7 < 1000; decide) fun H13 f13 s13 n13 => ?_
  have f1113 := f12.trans f13
  have g13 := (g10.trans (f11.mono (by simp))).trans f1113
  refine k _ st dx wl pl pr rt hd ⟨s13, f1113.g (f11.g0 p10) (by simpa using npr.symm), f1113.g (f11.g0 r10) (by simpa using nsr.symm), f1113.g h11 (by simpa using n1.symm)⟩ (T1.keep g13 sT) ⟨nss, nwp.symm, nwt.symm, n4.symm, npt, n2, n3⟩ (fun b o e n => g13.g (fS.g0 e) (by simpa using n)) (fun b hb => ?_)
  simp only [List.mem_cons, List.not_mem_nil, or_false] at hb
  rcases hb with e | e | e | e | e | e <;> subst e <;> assumption
end

end LX
namespace LX
open PySem PySem.Spec PyProof.Rows L2 NdefX
section
variable {P : Program} {w : World} {K : PySem.W.Frag} {mg : Str → Option Value} {base : Heap}
/-- a word that is no reference, or one to a number from 0 -/
def Evn (r : Int) : Prop := r % 2 = 0 → 0 ≤ r
def sp_word : Sp := fun vs H Q _ => ∃ x m : Int, vs = [.int x, .int m] ∧ 0 ≤ m ∧ m ≤ 100000 ∧ ∀ r : Int, Evn r → Q (.int r) H
theorem ok__law_word (W : WT P K mg base) : FnOk P w K mg base CX0 1 W.f__law_word W.fd__law_word ["_law_x", "_law_many"] sp_word := by
  refine W.F__law_word.ok sc__law_word (fun vs H Q E h => ?_) (fun cdv A outer s H vs Q E hr h => ?_)
  · obtain ⟨n, m, rfl, _⟩ := h
    rfl
  · obtain ⟨x, m, rfl, hm, hm2, k⟩ := h
    have hu1 := hu_of hr
    have hu64 := hu64_of hr
    refine ⟨_, (pss_cons (ps_set (i := 2) sc__law_word.nd rfl (by first | exact Or.inl rfl | exact Or.inr rfl) (pe_op op_fdivW (pv 0) pe_int))
      (pss_cons (ps_if (pt_cmpR (op_eqU hu64) (pe_op op_mod (pe_callTy call_intU (by rfl) W.n_int bb_int (pa_cons (pv 0) pa_nil)) pe_int) pe_int (by first | exact nomark _ | rfl)) (pss_one (ps_ret (pe_op op_addU (pe_op op_mulU pe_int (pe_op op_sub (pe_op op_mod (pe_callTy call_intU (by rfl) W.n_int bb_int (pa_cons (pe_op op_mulU (pv 2) pe_int) pa_nil)) pe_int) pe_int)) pe_int))) pss_nil)
      (pss_cons (ps_if (pt_cmpR (op_eqU hu64) (pe_op op_mod (pe_callTy call_intU (by rfl) W.n_int bb_int (pa_cons (pv 0) pa_nil)) pe_int) pe_int (by first | exact nomark _ | rfl)) (pss_one (ps_ret (pe_op op_addU (pe_op op_mulU pe_int (pe_op op_mod (pe_callTy call_intU (by rfl) W.n_int bb_int (pa_cons (pe_op op_mulU (pv 2) pe_int) pa_nil)) pe_int)) pe_int))) pss_nil)
      (pss_cons (ps_if (pt_cmpR (op_eqU hu64) (pe_op op_mod (pe_callTy call_intU (by rfl) W.n_int bb_int (pa_cons (pv 0) pa_nil)) pe_int) pe_int (by first | exact nomark _ | rfl)) (pss_one (ps_ret pe_int)) pss_nil)
      (pss_one (ps_ret (pe_op op_mulU pe_int (pe_op op_mod (pe_callTy call_intU (by rfl) W.n_int bb_int (pa_cons (pv 2) pa_nil)) (pe_op op_addU (pv 1) pe_int))))))))), ?_⟩
    refine ⟨_, rfl, _, _, rfl, rfl, ⟨by decide, by decide⟩, ?_⟩
    refine ⟨_, rfl, _, _, rfl, rfl, (by show (0 : Int) < 8; decide), rfl, _, rfl, ?_⟩
    refine iteD (fun h => ?_) (fun h => ?_)
    · refine ⟨_, rfl, Or.inr ⟨by decide, by decide⟩, ?_⟩
      refine ⟨_, _, rfl, rfl, (by show (0 : Int) < 536870912; decide), _, _, rfl, rfl, ?_⟩
      exact ⟨Or.inl ⟨by decide, by decide⟩, k _ (fun h => by omega)⟩
    · refine ⟨_, rfl, _, _, rfl, rfl, (by show (0 : Int) < 8; decide), rfl, _, rfl, ?_⟩
      refine iteD (fun h => ?_) (fun h => ?_)
      · refine ⟨_, rfl, Or.inr ⟨by decide, by decide⟩, ?_⟩
        refine ⟨_, _, rfl, rfl, (by show (0 : Int) < 100000; decide), ?_⟩
        exact ⟨Or.inl ⟨by decide, by decide⟩, k _ (fun h => by omega)⟩
      · refine ⟨_, rfl, _, _, rfl, rfl, (by show (0 : Int) < 8; decide), rfl, _, rfl, ?_⟩
        refine iteD (fun h => k _ (fun _ => by omega)) (fun h => ?_)
        refine ⟨_, rfl, _, rfl, ?_⟩
        refine ⟨_, _, rfl, rfl, (by omega), ?_⟩
        exact ⟨Or.inl ⟨by decide, by decide⟩, k _ (fun _ => by have := Int.emod_nonneg (x / 8) (by omega : m + 1 ≠ 0); show 0 ≤ 2 * (x / 8 % (m + 1)); omega)⟩
end

end LX
namespace LX
open PySem PySem.Spec PyProof.Rows L2 NdefX
section
variable {P : Program} {w : World} {K : PySem.W.Frag} {mg : Str → Option Value} {base : Heap}
def natZ (l : List Nat) : List V := l.map fun z : Nat => V.int (z : Int)
theorem natZ_set (l : List Nat) (i c : Nat) : (natZ l).set i (.int (c : Int)) = natZ (l.set i c) := by unfold natZ; rw [List.map_set]
theorem all_set {l : List Nat} {i c b : Nat} (h : ∀ z ∈ l, z ≤ b) (hc : c ≤ b) : ∀ z ∈ l.set i c, z ≤ b := fun z hz => by
  rcases List.mem_or_eq_of_mem_set hz with hz | rfl
  · exact h z hz
  · exact hc
def sp_sizes : Sp := fun vs H Q _ => ∃ x : Int, vs = [.int x] ∧ ∀ q (zs : List Nat) H', zs.length ≤ 59 → (∀ z ∈ zs, z ≤ 19) → H' q = some (.lst (natZ zs)) → H q = none → Fr [] H H' → Q (.ref q) H'
theorem ok__law_sizes (W : WT P K mg base) : FnOk P w K mg base CX0 2 W.f__law_sizes W.fd__law_sizes ["_law_x"] sp_sizes := by
  refine W.F__law_sizes.ok sc__law_sizes (fun vs H Q E h => ?_) (fun cdv A outer s H vs Q E hr h => ?_)
  · obtain ⟨n, rfl, _⟩ := h
    rfl
  · obtain ⟨x, rfl, k⟩ := h
    have hu1 := hu_of hr
    have hu64 := hu64_of hr
    refine ⟨_, (pss_cons (ps_set (i := 1) sc__law_sizes.nd rfl (by first | exact Or.inl rfl | exact Or.inr rfl) (pe_op op_mod (pe_callTy call_intU (by rfl) W.n_int bb_int (pa_cons (pv 0) pa_nil)) pe_int))
      (Evl.pss_cut (ps_if (pt_cmpR (op_eqU hu64) (pe_op op_mod (pe_op op_fdivW (pv 0) pe_int) pe_int) pe_int (by first | exact nomark _ | rfl)) (pss_one (ps_set (i := 1) sc__law_sizes.nd rfl (by first | exact Or.inl rfl | exact Or.inr rfl) (pe_op op_mod (pe_op op_fdivW (pv 0) pe_int) pe_int))) pss_nil)
      (pss_cons (ps_set (i := 2) sc__law_sizes.nd rfl (by first | exact Or.inl rfl | exact Or.inr rfl) (pe_op op_fdivW (pv 0) pe_int))
      (pss_cons (ps_set (i := 3) sc__law_sizes.nd rfl (by first | exact Or.inl rfl | exact Or.inr rfl) (pe_lst pa_nil))
      (pss_cons (ps_for PassesOwn.never rfl (pi_range1 (by rfl) W.n_range (pa_cons (pv 1) pa_nil)) (pg_name (i := 4) sc__law_sizes.nd rfl (by first | exact Or.inl rfl | exact Or.inr rfl)) (pss_cons (ps_set (i := 5) sc__law_sizes.nd rfl (by first | exact Or.inl rfl | exact Or.inr rfl) (pe_call (ok__law_number W) (hr.mono (by decide)) rfl W.g__law_number W.F__law_number.kp W.b__law_number .nil pass0 (pa_cons (pe_op op_addU (pv 2) (pv 4)) (pa_cons (pe_op op_addU (pv 4) pe_int) pa_nil))))
      (pss_cons (ps_set (i := 2) sc__law_sizes.nd rfl (by first | exact Or.inl rfl | exact Or.inr rfl) (pe_op op_fdivW (pv 2) pe_int))
      (pss_cons (ps_expr (pe_bm PySem.F.plainAttrs_list PySem.F.slot_list_append PySem.F.type_list_append mt_append (pv 3) (pa_cons (pe_op op_mod (pe_callTy call_intU (by rfl) W.n_int bb_int (pa_cons (pv 5) pa_nil)) pe_int) pa_nil)))
      (Evl.pss_cut (ps_if (pt_cmpR (op_eqU hu64) (pe_op op_mod (pe_op op_fdivW (pv 5) pe_int) pe_int) pe_int (by first | exact nomark _ | rfl)) (pss_one (ps_asg (pe_op op_mod (pe_op op_fdivW (pv 5) pe_int) pe_int) (pg_sub (pv 3) (pv 4) set_list))) pss_nil)
      (pss_one (ps_if (PW.pt (pw_and (pt_cmpR (op_eqU hu64) (pv 4) pe_int (by first | exact nomark _ | rfl)) (pw_and1 (pt_cmpR op_gtU (pe_op op_mod (pe_op op_fdivW (pv 5) pe_int) pe_int) pe_int (by first | exact nomark _ | rfl))))) (pss_one (ps_asg pe_int (pg_sub (pv 3) (pv 4) set_list))) pss_nil)))))))
      (pss_one (ps_ret (pv 3)))))))), ?_⟩
    refine ⟨_, rfl, _, _, rfl, rfl, (by show (0 : Int) < 11; decide), ?_⟩
    refine ⟨fun σ H' => (∃ c : Nat, σ = [some (.int x), some (.int (c : Int)), none, none, none, none] ∧ c ≤ 59) ∧ H' = H, ?_, ?_⟩
    · refine ⟨_, rfl, _, _, rfl, rfl, ⟨by decide, by decide⟩, ?_⟩
      refine ⟨_, _, rfl, rfl, (by show (0 : Int) < 8; decide), ?_⟩
      refine ⟨rfl, _, rfl, ?_⟩
      refine ite_eq (I_dec _ _) (iteD (fun h1 => ?_) (fun h1 => ?_))
      · refine ⟨_, rfl, _, _, rfl, rfl, ⟨by decide, by decide⟩, ?_⟩
        refine ⟨_, _, rfl, rfl, (by show (0 : Int) < 30; decide), ?_⟩
        have e1 := Int.emod_nonneg (x / 88) (by decide : (30 : Int) ≠ 0)
        have e2 := Int.emod_lt_of_pos (x / 88) (by decide : (0 : Int) < 30)
        exact ⟨⟨(x / 88 % 30).toNat, by rw [show ((x / 88 % 30).toNat : Int) = x / 88 % 30 by omega]; rfl, by omega⟩, rfl⟩
      · have e1 := Int.emod_nonneg x (by decide : (11 : Int) ≠ 0)
        have e2 := Int.emod_lt_of_pos x (by decide : (0 : Int) < 11)
        exact ⟨⟨(x % 11).toNat, by rw [show ((x % 11).toNat : Int) = x % 11 by omega]; rfl, by omega⟩, rfl⟩
    rintro σ H1 ⟨⟨c, rfl, hc⟩, rfl⟩
    refine ⟨_, rfl, _, _, rfl, rfl, ⟨by decide, by decide⟩, ?_⟩
    refine ⟨(by show 0 ≤ sizeLine; decide), fun q hq => ?_⟩
    have f1 : Fr [] H1 (upd H1 q (.lst [])) := Fr.new hq
    have q1 : upd H1 q (.lst []) q = some (.lst (natZ [])) := upd_same
    show gName 3 (V.ref q) _ (upd H1 q (.lst [])) _
    generalize upd H1 q (.lst []) = H2 at f1 q1
    refine ⟨_, rfl, ?_⟩
    refine ⟨_, rfl, by show -(2 ^ 62) ≤ ((c : Nat) : Int); omega, by show ((c : Nat) : Int) < 2 ^ 62; omega, for_range (lo := 0) (n := c) (fun i σ H' => ∃ (r : Int) (v4 v5 : Option V) (zs : List Nat), σ = [some (.int x), some (.int (c : Int)), some (.int r), some (.ref q), v4, v5] ∧ H' q = some (.lst (natZ zs)) ∧ zs.length = i ∧ (∀ z ∈ zs, z ≤ 19) ∧ Fr [] H1 H')
      ⟨_, _, _, [], rfl, q1, rfl, fun z h => by simp at h, f1⟩ (fun i σ H3 hi hI => ?_) (fun σ H3 hI => ?_)⟩
    · obtain ⟨r, v4, v5, zs, rfl, q3, hl, hz, f3⟩ := hI
      refine ⟨_, rfl, _, rfl, _, rfl, ?_⟩
      refine ⟨_, _, rfl, by omega, by omega, fun y hy => ?_⟩
      refine ⟨_, rfl, _, _, rfl, rfl, ⟨by decide, by decide⟩, ?_⟩
      refine ⟨_, rfl, Or.inl ⟨rfl, _, SqL.of q3⟩, ?_⟩
      refine ⟨_, rfl, _, _, rfl, rfl, (by show (0 : Int) < 4; decide), ?_⟩
      have a1 := Int.emod_nonneg y (by decide : (4 : Int) ≠ 0)
      have a2 := Int.emod_lt_of_pos y (by decide : (0 : Int) < 4)
      refine ⟨q, _, _, rfl, rfl, q3, (by unfold natZ; rw [List.length_map, sizeLine_eq]; omega), ?_⟩
      have e4 : natZ zs ++ [V.int (y % 4)] = natZ (zs ++ [(y % 4).toNat]) := by
        unfold natZ
        rw [List.map_append]
        show _ ++ [_] = _ ++ [V.int (((y % 4).toNat : Nat) : Int)]
        rw [show (((y % 4).toNat : Nat) : Int) = y % 4 by omega]
      have f4 : Fr [] H1 (upd H3 q (.lst (natZ (zs ++ [(y % 4).toNat])))) := f3.skip hq
      have q4 : upd H3 q (.lst (natZ (zs ++ [(y % 4).toNat]))) q = some (.lst (natZ (zs ++ [(y % 4).toNat]))) := upd_same
      have z4 : ∀ z ∈ zs ++ [(y % 4).toNat], z ≤ 19 := fun z h => by
        rcases List.mem_append.mp h with h | h
        · exact hz z h
        · have e : z = (y % 4).toNat := by simpa using h
          omega
      have l4 : (zs ++ [(y % 4).toNat]).length = i + 1 := by rw [List.length_append, hl]; rfl
      rw [show natZ zs ++ [V.int ((fun i j => i % j) y 4)] = natZ (zs ++ [(y % 4).toNat]) from e4]
      generalize zs ++ [(y % 4).toNat] = zs4 at f4 q4 z4 l4 ⊢
      generalize upd H3 q (.lst (natZ zs4)) = H4 at f4 q4
      have ix : ∀ zs : List Nat, zs.length = i + 1 → ixN (natZ zs).length (0 + (i : Int)) = some i := fun zs h => by
        rw [Int.zero_add]
        exact ixN_nat (by unfold natZ; rw [List.length_map]; omega)
      refine ⟨fun σ H' => ∃ zs : List Nat, σ = [some (.int x), some (.int (c : Int)), some (.int (r / 10007)), some (.ref q), some (.int (0 + (i : Int))), some (.int y)] ∧ H' q = some (.lst (natZ zs)) ∧ zs.length = i + 1 ∧ (∀ z ∈ zs, z ≤ 19) ∧ Fr [] H1 H', ?_, ?_⟩
      · refine ⟨_, rfl, _, _, rfl, rfl, ⟨by decide, by decide⟩, ?_⟩
        refine ⟨_, _, rfl, rfl, (by show (0 : Int) < 16; decide), ?_⟩
        refine ⟨rfl, _, rfl, ?_⟩
        refine ite_eq (I_dec _ _) (iteD (fun h1 => ?_) (fun h1 => ⟨zs4, rfl, q4, l4, z4, f4⟩))
        refine ⟨_, rfl, _, _, rfl, rfl, ⟨by decide, by decide⟩, ?_⟩
        refine ⟨_, _, rfl, rfl, (by show (0 : Int) < 20; decide), ?_⟩
        have b1 := Int.emod_nonneg (y / 64) (by decide : (20 : Int) ≠ 0)
        have b2 := Int.emod_lt_of_pos (y / 64) (by decide : (0 : Int) < 20)
        obtain ⟨d, hd⟩ : ∃ d : Nat, y / 64 % 20 = d := ⟨(y / 64 % 20).toNat, by omega⟩
        refine ⟨_, rfl, _, rfl, q, _, _, i, rfl, rfl, q4, ix zs4 l4, ?_⟩
        refine ⟨zs4.set i d, rfl, ?_, by rw [List.length_set]; exact l4, all_set z4 (by omega), f4.skip hq⟩
        rw [upd_same, ← natZ_set, ← hd]
      clear f4 q4 z4 l4
      rintro σ H5 ⟨zs5, rfl, q5, l5, z5, f5⟩
      refine ⟨_, rfl, rfl, _, rfl, ?_⟩
      refine ite_eq (I_dec _ _) (iteD (fun h1 => ?_) (fun h1 => ⟨_, _, _, zs5, rfl, q5, l5, z5, f5⟩))
      refine ⟨_, rfl, _, _, rfl, rfl, ⟨by decide, by decide⟩, ?_⟩
      refine ⟨_, _, rfl, rfl, (by show (0 : Int) < 4; decide), ?_⟩
      refine ⟨_, rfl, ?_⟩
      refine iteD (fun h2 => ?_) (fun h2 => ⟨_, _, _, zs5, rfl, q5, l5, z5, f5⟩)
      refine ⟨_, rfl, _, rfl, q, _, _, i, rfl, rfl, q5, ix zs5 l5, ?_⟩
      refine ⟨_, _, _, zs5.set i 0, rfl, ?_, by rw [List.length_set]; exact l5, all_set z5 (by omega), f5.skip hq⟩
      rw [upd_same]
      exact congrArg (fun z => some (HO.lst z)) (natZ_set zs5 i 0)
    · obtain ⟨r, v4, v5, zs, rfl, q3, hl, hz, f3⟩ := hI
      exact ⟨_, rfl, k q zs H3 (by omega) hz q3 hq f3⟩
end

end LX
namespace LX
open PySem PySem.Spec PyProof.Rows L2 NdefX
set_option hygiene false in
local macro_rules | `(tactic| k_memK) => `(tactic| first | exact W.na_Comparison_one | exact W.na_Comparison_other | exact W.na_Comparison_there | exact W.na_Comparison_back | exact W.na_Comparison_first | exact W.na_Store_room | exact W.na_Store_entries | exact W.na_Store_words | exact W.na_Store__places | exact W.na_Store__least | exact W.na_Space_store | exact W.na_Space_pressure | exact W.na_Space_always | exact W.na_Space_allocations | exact W.na_Space_collections | exact W.na_Space__roots | exact W.na_Space__held | exact W.na_Space__saved)
set_option hygiene false in
local macro_rules | `(tactic| k_ownIn) => `(tactic| first | exact W.C_Comparison | exact W.C_Store | exact W.C_Space)
local macro_rules | `(tactic| none_booked) => `(tactic| first | assumption | (refine Fr.g0 (by assumption) ?_; none_booked))
local macro_rules | `(tactic| one_sign) => `(tactic| repeat (first
  | refine Stp.h ?_
  | ((with_reducible refine' z_fld1 ?k0 ?k1 ?k2 ?k3 ?_); (case k0 => none_booked); (case k1 => k_ownIn); (case k2 => k_memK); (case k3 => rfl))
  | ((with_reducible refine' z_meth1 ?k0 ?k1 ?_); (case k0 => none_booked); (case k1 => rfl))
  | ((with_reducible refine' z_bmL ?k0 ?_); (case k0 => none_booked))
  | ((with_reducible refine' z_lenL ?k0 ?_); (case k0 => none_booked))
  | ((with_reducible refine' z_lenT ?k0 ?_); (case k0 => none_booked))
  | ((with_reducible refine' z_lenD ?k0 ?_); (case k0 => none_booked))
  | ((with_reducible refine' z_truL ?k0 ?_); (case k0 => none_booked))
  | ((with_reducible refine' z_truD ?k0 ?_); (case k0 => none_booked))
  | ((with_reducible refine' z_truT ?k0 ?_); (case k0 => none_booked))
  | ((with_reducible refine' z_inDIP ?k0 ?_); (case k0 => none_booked))
  | ((with_reducible refine' z_inDIN ?k0 ?_); (case k0 => none_booked))
  | ((with_reducible refine' z_inDfP ?k0 ?_); (case k0 => none_booked))
  | ((with_reducible refine' z_inDfN ?k0 ?_); (case k0 => none_booked))
  | ((with_reducible refine' z_iList1 ?k0 ?_); (case k0 => none_booked))
  | ((with_reducible refine' z_isi0 ?k0 ?k1 ?k2 ?_); (case k0 => exact (ClsV.ty _)); (case k1 => exact (TyX.base (TyOf.lst (by none_booked)))); (case k2 => first | exact kt_list_int | exact kt_list_bool | exact kt_list_str | exact kt_list_list | exact kt_list_tuple | exact kt_list_dict))
  | ((with_reducible refine' z_rI ?k0 ?_); (case k0 => first | exact (by decide : (0 : Int) < _) | exact ⟨by decide, by decide⟩ | exact ⟨by decide, by decide, by decide⟩ | (show (0 : Int) < _; omega)))
  | ((with_reducible refine' z_mulI ?k0 ?_); (case k0 => first | exact Or.inr ⟨by decide, by decide⟩ | exact Or.inl ⟨by decide, by decide⟩ | exact Or.inl ⟨by omega, by omega⟩ | exact Or.inr ⟨by omega, by omega⟩))))
local macro_rules | `(tactic| leaf_len) => `(tactic| (simp only [wipe, List.map_cons, List.map_nil, List.set_cons_zero, List.set_cons_succ]; one_sign; refine z_ok rfl ?_; one_sign))
section
variable {P : Program} {w : World} {K : PySem.W.Frag} {mg : Str → Option Value} {base : Heap}
/-- lists of words at their places -/
structure RwL (H : Hp) (A : List Addr) (R : List (List Int)) : Prop where
  len : A.length = R.length
  it : ∀ (i : Nat) (a : Addr) (r : List Int), A[i]? = some a → R[i]? = some r → H a = some (.lst (r.map V.int))
theorem RwL.keep {H H' : Hp} {A : List Addr} {R : List (List Int)} (L : RwL H A R) {F : List Addr} (f : Fr F H H') (h : ∀ a ∈ A, a ∉ F) : RwL H' A R := ⟨L.len, fun i a r ha hr => f _ _ (L.it i a r ha hr) (h a (List.mem_of_getElem? ha))⟩
theorem RwL.mono {H H' : Hp} {A : List Addr} {R : List (List Int)} (L : RwL H A R) (f : Fr [] H H') : RwL H' A R := L.keep f (by simp)
theorem RwL.snoc {H : Hp} {A : List Addr} {R : List (List Int)} (L : RwL H A R) {a : Addr} {r : List Int} (h : H a = some (.lst (r.map V.int))) : RwL H (A ++ [a]) (R ++ [r]) := by
  refine ⟨by rw [List.length_append, List.length_append, L.len]; rfl, fun i b s hb hs => ?_⟩
  rcases get_snoc hb with hb | ⟨e1, e2⟩
  · rcases get_snoc hs with hs | ⟨e3, e4⟩
    · exact L.it i b s hb hs
    · have := (List.getElem?_eq_some_iff.mp hb).1
      have := L.len
      omega
  · rcases get_snoc hs with hs | ⟨e3, e4⟩
    · have := (List.getElem?_eq_some_iff.mp hs).1
      have := L.len
      omega
    · rw [e2, e4]; exact h
def sp_rows : Sp := fun vs H Q _ => ∃ (sa : Addr) (zs : List Nat) (x : Int), vs = [.ref sa, .int x] ∧ H sa = some (.lst (natZ zs)) ∧ zs.length ≤ 59 ∧ (∀ z ∈ zs, z ≤ 19) ∧
  ∀ q (A : List Addr) (R : List (List Int)) H', H' q = some (.lst (A.map V.ref)) → RwL H' A R → R.map (·.length) = zs.map (· + 1) → (∀ r ∈ R, ∀ x ∈ r, Evn x) → H q = none → Fr [] H H' → Q (.ref q) H'
theorem natZ_len (l : List Nat) : (natZ l).length = l.length := by unfold natZ; rw [List.length_map]
theorem natZ_at {l : List Nat} {i z : Nat} (h : l[i]? = some z) : atI (natZ l) (i : Int) = some (V.int (z : Int)) := atI_nat (by unfold natZ; rw [List.getElem?_map, h]; rfl)
theorem ok__law_rows (W : WT P K mg base) : FnOk P w K mg base CX0 2 W.f__law_rows W.fd__law_rows ["_law_sizes_here", "_law_x"] sp_rows := by
  refine W.F__law_rows.ok sc__law_rows (fun vs H Q E h => by obtain ⟨sa, zs, x, rfl, hsa, hl, hz, k⟩ := h; rfl) (fun cdv A outer s H vs Q E hr h => ?_)
  obtain ⟨sa, zs, x, rfl, hsa, hl, hz, k⟩ := h
  have hu1 := hu_of hr
  have hu64 := hu64_of hr
  refine ⟨_, (pss_cons (ps_set (i := 2) sc__law_rows.nd rfl (by first | exact Or.inl rfl | exact Or.inr rfl) (pe_lst pa_nil))
      (pss_cons (ps_set (i := 3) sc__law_rows.nd rfl (by first | exact Or.inl rfl | exact Or.inr rfl) (pv 1))
      (pss_cons (ps_for PassesOwn.never rfl (pi_range1 (by rfl) W.n_range (pa_cons (pe_callB call_lenU (by rfl) W.n_len bb_len (pa_cons (pv 0) pa_nil)) pa_nil)) (pg_name (i := 4) sc__law_rows.nd rfl (by first | exact Or.inl rfl | exact Or.inr rfl)) (pss_cons (ps_set (i := 5) sc__law_rows.nd rfl (by first | exact Or.inl rfl | exact Or.inr rfl) (pe_call (ok__law_number W) (hr.mono (by decide)) rfl W.g__law_number W.F__law_number.kp W.b__law_number .nil pass0 (pa_cons (pe_op op_addU (pv 3) (pv 4)) (pa_cons (pv 4) pa_nil))))
      (pss_cons (ps_set (i := 3) sc__law_rows.nd rfl (by first | exact Or.inl rfl | exact Or.inr rfl) (pe_op op_fdivW (pv 3) pe_int))
      (pss_cons (ps_setLc (i := 6) (own := [("_law_at", 7)]) (g := gName 7) (tt := tYes) rfl sc__law_rows.nd rfl rfl (sw_true rfl rfl rfl (by decide +kernel)) (pi_range1 (by rfl) W.n_range (pa_cons (pe_op op_addU pe_int (pe_ix (ix_U hu1) (pv 0) (pv 4) (fun _ _ => rfl))) pa_nil)) (blkOk_by (N := N__law_rows) (sc := defScope s__law_rows) (by first | decide +kernel | rfl)) (fun _ _ _ _ _ => (pg_name (i := 7) sc__law_rows.nd rfl (by first | exact Or.inl rfl | exact Or.inr rfl))) (fun _ _ _ _ _ => pts_nil) (fun _ _ _ _ _ => (pe_call (ok__law_word W) (hr.mono (by decide)) rfl W.g__law_word W.F__law_word.kp W.b__law_word .nil pass0 (pa_cons (pe_op (op_addUK (K := K) rfl) (pe_op (op_addUK (K := K) rfl) (pe_op op_fdivW (pv 5) pe_int) (pe_op op_mulU (pv 7) pe_int)) (pe_op op_mulU (pv 7) (pv 7))) (pa_cons (pe_callB (call_lenUK (K := K) rfl) (by rfl) W.n_len bb_len (pa_cons (pv 0) pa_nil)) pa_nil)))))
      (Evl.pss_cut (ps_if (pt_cmpR (op_eqU hu64) (pe_op op_mod (pe_callTy call_intU (by rfl) W.n_int bb_int (pa_cons (pv 5) pa_nil)) pe_int) pe_int (by first | exact nomark _ | rfl)) (pss_one (ps_asg pe_int (pg_sub (pv 6) pe_int set_list))) pss_nil)
      (Evl.pss_cut (ps_if (PW.pt (pw_and (pt_cmpR (op_eqU hu64) (pe_op op_mod (pe_callTy call_intU (by rfl) W.n_int bb_int (pa_cons (pv 5) pa_nil)) pe_int) pe_int (by first | exact nomark _ | rfl)) (pw_and (pt_cmpR op_gtU (pe_ix (ix_U hu1) (pv 0) (pv 4) (fun _ _ => rfl)) pe_int (by first | exact nomark _ | rfl)) (pw_and1 (pt_cmpR op_gtU (pv 4) pe_int (by first | exact nomark _ | rfl)))))) (pss_one (ps_asg (pe_op op_mulU pe_int (pe_op op_sub (pv 4) pe_int)) (pg_sub (pv 6) pe_int set_list))) pss_nil)
      (pss_one (ps_expr (pe_bm PySem.F.plainAttrs_list PySem.F.slot_list_append PySem.F.type_list_append mt_append (pv 2) (pa_cons (pv 6) pa_nil))))))))))
      (pss_one (ps_ret (pv 2)))))), ?_⟩
  refine z_start (σ := [some _, some _, none, none, none, none, none, none]) rfl ?_
  one_sign
  refine z_newL (by show 0 ≤ sizeLine; decide) fun q H1 hq f1 q1 => ?_
  one_sign
  rw [natZ_len]
  refine z_rng1 zs.length rfl (by omega) ?_
  refine for_range (lo := 0) (n := zs.length) (fun i σ H' => ∃ (r : Int) (v4 v5 v6 v7 : Option V) (A : List Addr) (R : List (List Int)), σ = [some (.ref sa), some (.int x), some (.ref q), some (.int r), v4, v5, v6, v7] ∧ H' q = some (.lst (A.map V.ref)) ∧ RwL H' A R ∧ R.map (·.length) = (zs.take i).map (· + 1) ∧ q ∉ A ∧ (∀ r ∈ R, ∀ x ∈ r, Evn x) ∧ Fr [] H H')
    ⟨_, _, _, _, _, [], [], rfl, q1, ⟨rfl, fun i a r h => by simp at h⟩, rfl, by simp, by simp, f1⟩ (fun i σ H2 hi hI => ?_) (fun σ H2 hI => ?_)
  · obtain ⟨r, v4, v5, v6, v7, A, R, rfl, q2, L2, hR, hqA, hev, f2⟩ := hI
    one_sign
    refine ⟨_, _, rfl, by omega, by omega, fun y hy => ?_⟩
    have hs2 := f2.g0 hsa
    obtain ⟨z, hzi⟩ : ∃ z, zs[i]? = some z := ⟨_, List.getElem?_eq_getElem hi⟩
    have hz19 := hz z (List.mem_of_getElem? hzi)
    one_sign
    refine z_ixL hs2 (by rw [Int.zero_add]; exact natZ_at hzi) ?_
    one_sign
    refine z_rng1 (1 + z) (by omega) (by omega) ?_
    refine z_lcR (fun j xs H' => ∃ cs : List Int, xs = cs.map V.int ∧ cs.length = j ∧ ∀ x ∈ cs, Evn x) (fun _ _ _ _ => ⟨[], rfl, rfl, by simp⟩) ?_ ?_
    · intro L j xs H3 hL hj hl3 hcs hx f3
      obtain ⟨cs, rfl, hc, he⟩ := hcs
      have hs3 := f3.g0 hs2
      leaf_len
      rw [natZ_len]
      refine ⟨_, _, rfl, by omega, by omega, fun c hcv => ?_⟩
      exact z_lcY hL hx f3 hl3 (by rw [sizeLine_eq]; omega) fun H5 _ _ _ => ⟨cs ++ [c], by rw [List.map_append]; rfl, by rw [List.length_append, hc]; rfl, fun x hx => by rcases List.mem_append.mp hx with h | h; exact he x h; rw [List.mem_singleton.mp h]; exact hcv⟩
    intro L xs H3 hL hcs hl3 hx f3
    obtain ⟨cs, rfl, hc, he⟩ := hcs
    one_sign
    have nLq : L ≠ q := fun e => by rw [e, q2] at hL; cases hL
    refine Evl.q_cut (M := fun σ H' => ∃ cs : List Int, σ = [some (.ref sa), some (.int x), some (.ref q), some (.int (r / 1000003)), some (.int (0 + (i : Int))), some (.int y), some (.ref L), v7] ∧ H' L = some (.lst (cs.map V.int)) ∧ cs.length = 1 + z ∧ (∀ x ∈ cs, Evn x) ∧ Fr [] H2 H') ?_ ?_
    · one_sign
      refine iteD (fun h => ?_) (fun h => ?_)
      · one_sign
        refine z_setL hx (ixN_nat (i := 0) (by rw [List.length_map]; omega)) fun H4 f4 h4 n4 => ?_
        one_sign
        exact ⟨cs.set 0 0, rfl, by rw [h4, set_int], by rw [List.length_set]; exact hc, fun x hx => by rcases List.mem_or_eq_of_mem_set hx with h | h; exact he x h; rw [h]; intro _; omega, f3.in f4 hL⟩
      · one_sign
        exact ⟨cs, rfl, hx, hc, he, f3⟩
    rintro σ H4 ⟨cs, rfl, hx, hc, he, f4⟩
    refine Evl.q_cut (M := fun σ H' => ∃ cs : List Int, σ = [some (.ref sa), some (.int x), some (.ref q), some (.int (r / 1000003)), some (.int (0 + (i : Int))), some (.int y), some (.ref L), v7] ∧ H' L = some (.lst (cs.map V.int)) ∧ cs.length = 1 + z ∧ (∀ x ∈ cs, Evn x) ∧ Fr [] H2 H') ?_ ?_
    · have hs4 := f4.g0 hs2
      one_sign
      refine iteD (fun h => ?_) (fun h => ?_)
      · one_sign
        refine z_ixL hs4 (by rw [Int.zero_add]; exact natZ_at hzi) ?_
        one_sign
        refine iteD (fun h => ?_) (fun h => ?_)
        · one_sign
          refine iteD (fun h => ?_) (fun h => ?_)
          · one_sign
            have hz0 : (0 : Int) < (z : Int) := by assumption
            refine z_setL hx (ixN_nat (i := 1) (by rw [List.length_map]; omega)) fun H5 f5 h5 n5 => ?_
            one_sign
            exact ⟨cs.set 1 _, rfl, by rw [h5, set_int], by rw [List.length_set]; exact hc, fun x hx => by rcases List.mem_or_eq_of_mem_set hx with h | h; exact he x h; rw [h]; intro _; omega, f4.in f5 hL⟩
          · one_sign
            exact ⟨cs, rfl, hx, hc, he, f4⟩
        · one_sign
          exact ⟨cs, rfl, hx, hc, he, f4⟩
      · one_sign
        exact ⟨cs, rfl, hx, hc, he, f4⟩
    rintro σ H5 ⟨cs, rfl, hx, hc, he, f5⟩
    have q5 := f5.g0 q2
    one_sign
    refine z_append q5 (by rw [List.length_map, L2.len, sizeLine_eq]; have := congrArg List.length hR; rw [List.length_map, List.length_map, List.length_take] at this; omega) fun H6 f6 h6 n6 => ?_
    have L5 := L2.mono f5
    refine ⟨_, _, _, _, _, A ++ [L], R ++ [cs], rfl, by rw [h6, List.map_append]; rfl, ?_, ?_, ?_, fun r hr => by rcases List.mem_append.mp hr with h | h; exact hev r h; rw [List.mem_singleton.mp h]; exact he, (f2.trans f5).in f6 hq⟩
    · exact (L5.keep f6 (fun a ha => by simp; intro e; exact hqA (e ▸ ha))).snoc (f6.g hx (by simpa using nLq))
    · rw [List.map_append, hR, List.take_succ, hzi, List.map_append]
      show _ ++ [cs.length] = _ ++ [z + 1]
      rw [hc, Nat.add_comm]
    · simp only [List.mem_append, List.mem_singleton, not_or]
      exact ⟨hqA, nLq.symm⟩
  · obtain ⟨r, v4, v5, v6, v7, A, R, rfl, q2, L2, hR, hqA, hev, f2⟩ := hI
    one_sign
    exact k q A R H2 q2 L2 (by rw [hR, List.take_length]) hev hq f2
end

end LX
namespace LX
open PySem PySem.Spec PyProof.Rows L2 NdefX
set_option hygiene false in
local macro_rules | `(tactic| k_memK) => `(tactic| first | exact W.na_Comparison_one | exact W.na_Comparison_other | exact W.na_Comparison_there | exact W.na_Comparison_back | exact W.na_Comparison_first | exact W.na_Store_room | exact W.na_Store_entries | exact W.na_Store_words | exact W.na_Store__places | exact W.na_Store__least | exact W.na_Space_store | exact W.na_Space_pressure | exact W.na_Space_always | exact W.na_Space_allocations | exact W.na_Space_collections | exact W.na_Space__roots | exact W.na_Space__held | exact W.na_Space__saved)
set_option hygiene false in
local macro_rules | `(tactic| k_ownIn) => `(tactic| first | exact W.C_Comparison | exact W.C_Store | exact W.C_Space)
local macro_rules | `(tactic| none_booked) => `(tactic| first | assumption | (refine Fr.g0 (by assumption) ?_; none_booked))
local macro_rules | `(tactic| one_sign) => `(tactic| repeat (first
  | refine Stp.h ?_
  | ((with_reducible refine' z_fld1 ?k0 ?k1 ?k2 ?k3 ?_); (case k0 => none_booked); (case k1 => k_ownIn); (case k2 => k_memK); (case k3 => rfl))
  | ((with_reducible refine' z_meth1 ?k0 ?k1 ?_); (case k0 => none_booked); (case k1 => rfl))
  | ((with_reducible refine' z_bmL ?k0 ?_); (case k0 => none_booked))
  | ((with_reducible refine' z_lenL ?k0 ?_); (case k0 => none_booked))
  | ((with_reducible refine' z_lenT ?k0 ?_); (case k0 => none_booked))
  | ((with_reducible refine' z_lenD ?k0 ?_); (case k0 => none_booked))
  | ((with_reducible refine' z_truL ?k0 ?_); (case k0 => none_booked))
  | ((with_reducible refine' z_truD ?k0 ?_); (case k0 => none_booked))
  | ((with_reducible refine' z_truT ?k0 ?_); (case k0 => none_booked))
  | ((with_reducible refine' z_inDIP ?k0 ?_); (case k0 => none_booked))
  | ((with_reducible refine' z_inDIN ?k0 ?_); (case k0 => none_booked))
  | ((with_reducible refine' z_inDfP ?k0 ?_); (case k0 => none_booked))
  | ((with_reducible refine' z_inDfN ?k0 ?_); (case k0 => none_booked))
  | ((with_reducible refine' z_iList1 ?k0 ?_); (case k0 => none_booked))
  | ((with_reducible refine' z_isi0 ?k0 ?k1 ?k2 ?_); (case k0 => exact (ClsV.ty _)); (case k1 => exact (TyX.base (TyOf.lst (by none_booked)))); (case k2 => first | exact kt_list_int | exact kt_list_bool | exact kt_list_str | exact kt_list_list | exact kt_list_tuple | exact kt_list_dict))
  | ((with_reducible refine' z_rI ?k0 ?_); (case k0 => first | exact (by decide : (0 : Int) < _) | exact ⟨by decide, by decide⟩ | exact ⟨by decide, by decide, by decide⟩ | (show (0 : Int) < _; omega)))
  | ((with_reducible refine' z_mulI ?k0 ?_); (case k0 => first | exact Or.inr ⟨by decide, by decide⟩ | exact Or.inl ⟨by decide, by decide⟩ | exact Or.inl ⟨by omega, by omega⟩ | exact Or.inr ⟨by omega, by omega⟩))))
local macro_rules | `(tactic| leaf_len) => `(tactic| (simp only [wipe, List.map_cons, List.map_nil, List.set_cons_zero, List.set_cons_succ]; one_sign; refine z_ok rfl ?_; one_sign))
section
variable {P : Program} {w : World} {K : PySem.W.Frag} {mg : Str → Option Value} {base : Heap}
def sp_roots : Sp := fun vs H Q _ => ∃ (m : Nat) (x : Int), vs = [.int (m : Int), .int x] ∧ m ≤ 1000 ∧
  ∀ q (ws : List Int) H', H' q = some (.lst (ws.map V.int)) → 16 ≤ ws.length → ws.length ≤ 20 → (∀ x ∈ ws, Evn x) → H q = none → Fr [] H H' → Q (.ref q) H'
theorem ok__law_roots (W : WT P K mg base) : FnOk P w K mg base CX0 2 W.f__law_roots W.fd__law_roots ["_law_many", "_law_x"] sp_roots := by
  refine W.F__law_roots.ok sc__law_roots (fun vs H Q E h => by obtain ⟨m, x, rfl, hm, k⟩ := h; rfl) (fun cdv A outer s H vs Q E hr h => ?_)
  obtain ⟨m, x, rfl, hm, k⟩ := h
  have hu1 := hu_of hr
  have hu64 := hu64_of hr
  refine ⟨_, (pss_cons (ps_set (i := 2) sc__law_roots.nd rfl (by first | exact Or.inl rfl | exact Or.inr rfl) (pe_lst pa_nil))
      (pss_cons (ps_set (i := 3) sc__law_roots.nd rfl (by first | exact Or.inl rfl | exact Or.inr rfl) (pv 1))
      (pss_cons (ps_for PassesOwn.never rfl (pi_range1 (by rfl) W.n_range (pa_cons pe_int pa_nil)) (pg_name (i := 4) sc__law_roots.nd rfl (by first | exact Or.inl rfl | exact Or.inr rfl)) (pss_cons (ps_set (i := 5) sc__law_roots.nd rfl (by first | exact Or.inl rfl | exact Or.inr rfl) (pe_call (ok__law_number W) (hr.mono (by decide)) rfl W.g__law_number W.F__law_number.kp W.b__law_number .nil pass0 (pa_cons (pe_op op_addU (pv 3) (pv 4)) (pa_cons (pe_op op_addU (pv 4) pe_int) pa_nil))))
      (pss_cons (ps_set (i := 3) sc__law_roots.nd rfl (by first | exact Or.inl rfl | exact Or.inr rfl) (pe_op op_fdivW (pv 3) pe_int))
      (pss_one (ps_if (pt_cmpR op_gtU (pv 4) pe_int (by first | exact nomark _ | rfl)) (pss_one (ps_if (pt_cmpR (op_eqU hu64) (pe_op op_mod (pe_callTy call_intU (by rfl) W.n_int bb_int (pa_cons (pv 5) pa_nil)) pe_int) pe_int (by first | exact nomark _ | rfl)) (pss_one (ps_expr (pe_bm PySem.F.plainAttrs_list PySem.F.slot_list_append PySem.F.type_list_append mt_append (pv 2) (pa_cons (pe_call (ok__law_word W) (hr.mono (by decide)) rfl W.g__law_word W.F__law_word.kp W.b__law_word .nil pass0 (pa_cons (pe_op op_fdivW (pv 5) pe_int) (pa_cons (pv 0) pa_nil))) pa_nil)))) pss_nil)) (pss_one (ps_if (pt_cmpR (op_eqU hu64) (pe_op op_mod (pe_callTy call_intU (by rfl) W.n_int bb_int (pa_cons (pv 5) pa_nil)) pe_int) pe_int (by first | exact nomark _ | rfl)) (pss_one (ps_expr (pe_bm PySem.F.plainAttrs_list PySem.F.slot_list_append PySem.F.type_list_append mt_append (pv 2) (pa_cons (pe_call (ok__law_word W) (hr.mono (by decide)) rfl W.g__law_word W.F__law_word.kp W.b__law_word .nil pass0 (pa_cons (pe_op op_fdivW (pv 5) pe_int) (pa_cons (pv 0) pa_nil))) pa_nil)))) (pss_one (ps_expr (pe_bm PySem.F.plainAttrs_list PySem.F.slot_list_append PySem.F.type_list_append mt_append (pv 2) (pa_cons pe_int pa_nil)))))))))))
      (pss_one (ps_ret (pv 2)))))), ?_⟩
  refine z_start (σ := [some _, some _, none, none, none, none]) rfl ?_
  one_sign
  refine z_newL (by show 0 ≤ sizeLine; decide) fun q H1 hq f1 q1 => ?_
  one_sign
  refine z_rng1 20 rfl (by decide) ?_
  refine for_range (lo := 0) (n := 20) (fun i σ H' => ∃ (r : Int) (v4 v5 : Option V) (ws : List Int), σ = [some (.int (m : Int)), some (.int x), some (.ref q), some (.int r), v4, v5] ∧ H' q = some (.lst (ws.map V.int)) ∧ ws.length ≤ i ∧ (i ≤ 16 → ws.length = i) ∧ (16 ≤ i → 16 ≤ ws.length) ∧ (∀ x ∈ ws, Evn x) ∧ Fr [] H H')
    ⟨_, _, _, [], rfl, q1, by simp, by simp, by simp, by simp, f1⟩ (fun i σ H2 hi hI => ?_) (fun σ H2 hI => ?_)
  · obtain ⟨r, v4, v5, ws, rfl, q2, hl, h16, h17, hev, f2⟩ := hI
    one_sign
    refine ⟨_, _, rfl, by omega, by omega, fun y hy => ?_⟩
    one_sign
    have app : ∀ c : Int, Evn c → ∀ H3, Fr [q] H2 H3 → H3 q = some (.lst (ws.map V.int ++ [V.int c])) → ∃ (r' : Int) (v4 v5 : Option V) (ws' : List Int), [some (V.int (m : Int)), some (.int x), some (.ref q), some (.int (r / 1009)), some (.int (0 + (i : Int))), some (.int y)] = [some (V.int (m : Int)), some (.int x), some (.ref q), some (.int r'), v4, v5] ∧ H3 q = some (.lst (ws'.map V.int)) ∧ ws'.length ≤ i + 1 ∧ (i + 1 ≤ 16 → ws'.length = i + 1) ∧ (16 ≤ i + 1 → 16 ≤ ws'.length) ∧ (∀ x ∈ ws', Evn x) ∧ Fr [] H H3 := fun c hcv H3 f3 h3 =>
      ⟨_, _, _, ws ++ [c], rfl, by rw [h3, List.map_append]; rfl, by rw [List.length_append]; show ws.length + 1 ≤ i + 1; omega, fun h => by rw [List.length_append]; show ws.length + 1 = i + 1; have := h16 (by omega); omega, fun h => by rw [List.length_append]; show 16 ≤ ws.length + 1; by_cases e : i = 15; (have := h16 (by omega); omega); (have := h17 (by omega); omega), fun x hx => by rcases List.mem_append.mp hx with h | h; exact hev x h; rw [List.mem_singleton.mp h]; exact hcv, f2.in f3 hq⟩
    have lz : (ws.map V.int).length < sizeLine := by rw [List.length_map, sizeLine_eq]; omega
    refine iteD (fun h => ?_) (fun h => ?_)
    · have h : (15 : Int) < 0 + (i : Int) := h
      one_sign
      refine iteD (fun h2 => ?_) (fun h2 => ?_)
      · one_sign
        refine ⟨_, _, rfl, by omega, by omega, fun c hcv => ?_⟩
        one_sign
        refine z_append q2 lz fun H3 f3 h3 n3 => ?_
        exact app c hcv H3 f3 h3
      · one_sign
        exact ⟨_, _, _, ws, rfl, q2, by omega, fun h => by omega, fun h => h17 (by omega), hev, f2⟩
    · have h : ¬ (15 : Int) < 0 + (i : Int) := h
      one_sign
      refine iteD (fun h2 => ?_) (fun h2 => ?_)
      · one_sign
        refine ⟨_, _, rfl, by omega, by omega, fun c hcv => ?_⟩
        one_sign
        refine z_append q2 lz fun H3 f3 h3 n3 => ?_
        exact app c hcv H3 f3 h3
      · one_sign
        refine z_append q2 lz fun H3 f3 h3 n3 => ?_
        exact app 0 (fun _ => by omega) H3 f3 h3
  · obtain ⟨r, v4, v5, ws, rfl, q2, hl, h16, h17, hev, f2⟩ := hI
    one_sign
    exact k q ws H2 q2 (h17 (by omega)) hl hev hq f2
end
/-- the whole space: its things O, its roots rs, the held words hs; X: the places that change -/
structure SS (C CS PT : Addr) (H : Hp) (sp dxs st dx wl pl pr rt hd : Addr) (al co least : Int) (O : List Ob) (kvs : List (Key × V)) (rs hs : List Int) : Prop where
  S : SpaceAt H CS sp dxs st pr rt hd al co rs hs
  T : StoreAt H C st dx wl pl 100000 100000 least (flat O) kvs
  N : ApartS sp st pr rt hd wl
  G : Good O kvs least
  sz : ∀ o ∈ O, o.sl.length ≤ 25
  nn : ∀ o ∈ O, 0 ≤ o.num
  lv : ∀ o ∈ O, o.live = true
  len : O.length ≤ 59
  rl : rs.length = 16
  hl : hs.length ≤ 8
  tab : LamX.TabS H PT qLam
def Spc (C CS PT : Addr) (H : Hp) (sp : Addr) (X : List Addr) (O : List Ob) (rs hs : List Int) : Prop := ∃ dxs st dx wl pl pr rt hd al co least kvs, X = [sp, st, wl, pl, rt, hd] ∧ SS C CS PT H sp dxs st dx wl pl pr rt hd al co least O kvs rs hs
theorem SS.keep {C CS PT : Addr} {H H' : Hp} {sp dxs st dx wl pl pr rt hd : Addr} {al co least : Int} {O : List Ob} {kvs : List (Key × V)} {rs hs : List Int} (s : SS C CS PT H sp dxs st dx wl pl pr rt hd al co least O kvs rs hs) (f : Fr [] H H') : SS C CS PT H' sp dxs st dx wl pl pr rt hd al co least O kvs rs hs :=
  ⟨s.S.keep f (by simp), s.T.keep f (by simp), s.N, s.G, s.sz, s.nn, s.lv, s.len, s.rl, s.hl, s.tab.ext fun b o e => f.g0 e⟩
theorem Spc.keep {C CS PT : Addr} {H H' : Hp} {sp : Addr} {X : List Addr} {O : List Ob} {rs hs : List Int} (s : Spc C CS PT H sp X O rs hs) (f : Fr [] H H') : Spc C CS PT H' sp X O rs hs := by
  obtain ⟨dxs, st, dx, wl, pl, pr, rt, hd, al, co, least, kvs, e, s⟩ := s
  exact ⟨dxs, st, dx, wl, pl, pr, rt, hd, al, co, least, kvs, e, s.keep f⟩
/-- a thing changes in its contents -/
theorem SS.change {C CS PT : Addr} {H H' : Hp} {sp dxs st dx wl pl pr rt hd : Addr} {al co least : Int} {O : List Ob} {kvs : List (Key × V)} {rs hs : List Int} (s : SS C CS PT H sp dxs st dx wl pl pr rt hd al co least O kvs rs hs) {i : Nat} {o o' : Ob} (h : O[i]? = some o) (hn : o'.num = o.num) (hv : o'.live = o.live) (hl : o'.sl.length = o.sl.length)
    (f : Fr [wl] H H') (hw : H' wl = some (.lst ((flat (O.set i o')).map V.int))) : SS C CS PT H' sp dxs st dx wl pl pr rt hd al co least (O.set i o') kvs rs hs := by
  have n1 := ne_of s.T.st s.T.wl (by intro z; cases z)
  have n2 := ne_of s.T.pl s.T.wl (by intro z; cases z)
  have n3 := ne_of s.S.sp s.T.wl (by intro z; cases z)
  have g := fun (x : Ob) (hx : x ∈ O.set i o') => (List.mem_or_eq_of_mem_set hx)
  have mo := List.mem_of_getElem? h
  refine ⟨s.S.keep f (fun b hb => ?_), ⟨f.g s.T.st (by simpa using n1), hw, f.g s.T.pl (by simpa using n2)⟩, s.N, s.G.same h hn hv hl, fun x hx => ?_, fun x hx => ?_, fun x hx => ?_, by rw [List.length_set]; exact s.len, s.rl, s.hl, tab_out s.tab f (fun b hb => ?_)⟩
  · simp only [List.mem_cons, List.not_mem_nil, or_false] at hb ⊢
    have := s.N
    rcases hb with e | e | e | e
    · rw [e]; exact n3
    · rw [e]; exact this.p
    · rw [e]; exact this.r
    · rw [e]; exact this.h
  · rcases g x hx with e | e
    · exact s.sz x e
    · rw [e, hl]; exact s.sz o mo
  · rcases g x hx with e | e
    · exact s.nn x e
    · rw [e, hn]; exact s.nn o mo
  · rcases g x hx with e | e
    · exact s.lv x e
    · rw [e, hv]; exact s.lv o mo
  · have e : b = wl := by simpa using hb
    rw [e]
    exact ⟨_, s.T.wl, (by intro ps z; cases z), (by intro ps z; cases z)⟩
/-- the roots change -/
theorem SS.root {C CS PT : Addr} {H H' : Hp} {sp dxs st dx wl pl pr rt hd : Addr} {al co least : Int} {O : List Ob} {kvs : List (Key × V)} {rs hs rs' : List Int} (s : SS C CS PT H sp dxs st dx wl pl pr rt hd al co least O kvs rs hs) (hl : rs'.length = rs.length)
    (f : Fr [rt] H H') (hw : H' rt = some (.lst (rs'.map V.int))) : SS C CS PT H' sp dxs st dx wl pl pr rt hd al co least O kvs rs' hs := by
  have n1 := ne_of s.T.st s.S.rt (by intro z; cases z)
  have n2 := ne_of s.T.pl s.S.rt (by intro z; cases z)
  have n3 := ne_of s.S.sp s.S.rt (by intro z; cases z)
  refine ⟨⟨f.g s.S.sp (by simpa using n3), f.g s.S.pr (by simpa using s.N.b), hw, f.g s.S.hd (by simpa using s.N.d.symm)⟩, ⟨f.g s.T.st (by simpa using n1), f.g s.T.wl (by simpa using s.N.r.symm), f.g s.T.pl (by simpa using n2)⟩, s.N, s.G, s.sz, s.nn, s.lv, s.len, hl.trans s.rl, s.hl, tab_out s.tab f (fun b hb => ?_)⟩
  have e : b = rt := by simpa using hb
  rw [e]
  exact ⟨_, s.S.rt, (by intro ps z; cases z), (by intro ps z; cases z)⟩
/-- a word more is held -/
theorem SS.held {C CS PT : Addr} {H H' : Hp} {sp dxs st dx wl pl pr rt hd : Addr} {al co least : Int} {O : List Ob} {kvs : List (Key × V)} {rs hs hs' : List Int} (s : SS C CS PT H sp dxs st dx wl pl pr rt hd al co least O kvs rs hs) (hl : hs'.length ≤ 8)
    (f : Fr [hd] H H') (hw : H' hd = some (.lst (hs'.map V.int))) : SS C CS PT H' sp dxs st dx wl pl pr rt hd al co least O kvs rs hs' := by
  have n1 := ne_of s.T.st s.S.hd (by intro z; cases z)
  have n2 := ne_of s.T.pl s.S.hd (by intro z; cases z)
  have n3 := ne_of s.S.sp s.S.hd (by intro z; cases z)
  refine ⟨⟨f.g s.S.sp (by simpa using n3), f.g s.S.pr (by simpa using s.N.c), f.g s.S.rt (by simpa using s.N.d), hw⟩, ⟨f.g s.T.st (by simpa using n1), f.g s.T.wl (by simpa using s.N.h.symm), f.g s.T.pl (by simpa using n2)⟩, s.N, s.G, s.sz, s.nn, s.lv, s.len, s.rl, hl, tab_out s.tab f (fun b hb => ?_)⟩
  have e : b = hd := by simpa using hb
  rw [e]
  exact ⟨_, s.S.hd, (by intro ps z; cases z), (by intro ps z; cases z)⟩

end LX
namespace LX
open PySem PySem.Spec PyProof.Rows L2 NdefX
set_option hygiene false in
local macro_rules | `(tactic| k_memK) => `(tactic| first | exact W.na_Comparison_one | exact W.na_Comparison_other | exact W.na_Comparison_there | exact W.na_Comparison_back | exact W.na_Comparison_first | exact W.na_Store_room | exact W.na_Store_entries | exact W.na_Store_words | exact W.na_Store__places | exact W.na_Store__least | exact W.na_Space_store | exact W.na_Space_pressure | exact W.na_Space_always | exact W.na_Space_allocations | exact W.na_Space_collections | exact W.na_Space__roots | exact W.na_Space__held | exact W.na_Space__saved)
set_option hygiene false in
local macro_rules | `(tactic| k_ownIn) => `(tactic| first | exact W.C_Comparison | exact W.C_Store | exact W.C_Space)
local macro_rules | `(tactic| none_booked) => `(tactic| first | assumption | (refine Fr.g0 (by assumption) ?_; none_booked))
local macro_rules | `(tactic| one_sign) => `(tactic| repeat (first
  | refine Stp.h ?_
  | ((with_reducible refine' z_fld1 ?k0 ?k1 ?k2 ?k3 ?_); (case k0 => none_booked); (case k1 => k_ownIn); (case k2 => k_memK); (case k3 => rfl))
  | ((with_reducible refine' z_meth1 ?k0 ?k1 ?_); (case k0 => none_booked); (case k1 => rfl))
  | ((with_reducible refine' z_bmL ?k0 ?_); (case k0 => none_booked))
  | ((with_reducible refine' z_lenL ?k0 ?_); (case k0 => none_booked))
  | ((with_reducible refine' z_lenT ?k0 ?_); (case k0 => none_booked))
  | ((with_reducible refine' z_lenD ?k0 ?_); (case k0 => none_booked))
  | ((with_reducible refine' z_truL ?k0 ?_); (case k0 => none_booked))
  | ((with_reducible refine' z_truD ?k0 ?_); (case k0 => none_booked))
  | ((with_reducible refine' z_truT ?k0 ?_); (case k0 => none_booked))
  | ((with_reducible refine' z_inDIP ?k0 ?_); (case k0 => none_booked))
  | ((with_reducible refine' z_inDIN ?k0 ?_); (case k0 => none_booked))
  | ((with_reducible refine' z_inDfP ?k0 ?_); (case k0 => none_booked))
  | ((with_reducible refine' z_inDfN ?k0 ?_); (case k0 => none_booked))
  | ((with_reducible refine' z_iList1 ?k0 ?_); (case k0 => none_booked))
  | ((with_reducible refine' z_isi0 ?k0 ?k1 ?k2 ?_); (case k0 => exact (ClsV.ty _)); (case k1 => exact (TyX.base (TyOf.lst (by none_booked)))); (case k2 => first | exact kt_list_int | exact kt_list_bool | exact kt_list_str | exact kt_list_list | exact kt_list_tuple | exact kt_list_dict))
  | ((with_reducible refine' z_rI ?k0 ?_); (case k0 => first | exact (by decide : (0 : Int) < _) | exact ⟨by decide, by decide⟩ | exact ⟨by decide, by decide, by decide⟩ | (show (0 : Int) < _; omega)))
  | ((with_reducible refine' z_mulI ?k0 ?_); (case k0 => first | exact Or.inr ⟨by decide, by decide⟩ | exact Or.inl ⟨by decide, by decide⟩ | exact Or.inl ⟨by omega, by omega⟩ | exact Or.inr ⟨by omega, by omega⟩))))
local macro_rules | `(tactic| leaf_len) => `(tactic| (simp only [wipe, List.map_cons, List.map_nil, List.set_cons_zero, List.set_cons_succ]; one_sign; refine z_ok rfl ?_; one_sign))
theorem Fr.inF {H0 H H1 : Hp} {F : List Addr} (f : Fr [] H0 H) (g : Fr F H H1) (hq : ∀ q ∈ F, H0 q = Option.none) : Fr [] H0 H1 := fun b o e _ => g b o (f.g0 e) (fun hm => by rw [hq b hm] at e; cases e)
theorem Good.empty : Good [] [] 0 := ⟨fun k v => ⟨fun h => (by simp [valV] at h), fun ⟨i, o, h, _⟩ => by simp at h⟩, by simp, fun i j o o' h => by simp at h, ⟨Int.le_refl _, fun n h0 h1 => by omega⟩⟩
def Idx (O : List Ob) : Prop := ∀ (i : Nat) (o : Ob), O[i]? = some o → o.num = i
theorem Idx.live {O : List Ob} (h : Idx O) (hl : ∀ o ∈ O, o.live = true) (n : Int) : Live O n ↔ 0 ≤ n ∧ n < O.length := by
  constructor
  · rintro ⟨i, o, h1, h2, h3⟩
    have := (List.getElem?_eq_some_iff.mp h1).1
    have := h i o h1
    omega
  · rintro ⟨h0, h1⟩
    have e := List.getElem?_eq_getElem (l := O) (i := n.toNat) (by omega)
    exact ⟨n.toNat, _, e, hl _ (List.mem_of_getElem? e), by rw [h _ _ e]; omega⟩
/-- a thing more -/
theorem SS.add {C CS PT : Addr} {H H' : Hp} {sp dxs st dx wl pl pr rt hd : Addr} {al co least : Int} {O : List Ob} {kvs : List (Key × V)} {rs hs : List Int} (s : SS C CS PT H sp dxs st dx wl pl pr rt hd al co least O kvs rs hs) {m x al' : Int} {z : Nat} (hz : z ≤ 25) (ho : O.length ≤ 58)
    (S' : SpaceAt H' CS sp dxs st pr rt hd al' co rs hs) (T' : StoreAt H' C st dx wl pl 100000 100000 m (flat O ++ (m :: (z : Int) :: x :: List.replicate z 0)) (putK kvs (.inl m) (.int ((flat O).length : Int)))) (f : Fr [sp, st, wl, pl] H H') (hs1 : Seen kvs m) (hm : valV kvs (.inl m) = none) :
    SS C CS PT H' sp dxs st dx wl pl pr rt hd al' co m (O ++ [{ num := m, kind := x, sl := List.replicate z 0, live := true }]) (putK kvs (.inl m) (.int ((flat O).length : Int))) rs hs := by
  have eF : flat O ++ (m :: (z : Int) :: x :: List.replicate z 0) = flat (O ++ [{ num := m, kind := x, sl := List.replicate z 0, live := true }]) := by
    rw [flat_app]
    show _ = _ ++ (fl _ ++ [])
    rw [List.append_nil]
    unfold fl
    rw [List.length_replicate]
  rw [eF] at T'
  have g := fun (y : Ob) (hy : y ∈ O ++ [({ num := m, kind := x, sl := List.replicate z 0, live := true } : Ob)]) => List.mem_append.mp hy
  refine ⟨S', T', s.N, s.G.add (o := { num := m, kind := x, sl := List.replicate z 0, live := true }) rfl hm hs1, fun y hy => ?_, fun y hy => ?_, fun y hy => ?_, by rw [List.length_append]; show O.length + 1 ≤ 59; omega, s.rl, s.hl, tab_out s.tab f (fun b hb => ?_)⟩
  · rcases g y hy with e | e
    · exact s.sz y e
    · have e := List.mem_singleton.mp e
      subst e
      show (List.replicate z (0 : Int)).length ≤ 25
      rw [List.length_replicate]; exact hz
  · rcases g y hy with e | e
    · exact s.nn y e
    · have e := List.mem_singleton.mp e
      subst e
      exact hs1.1
  · rcases g y hy with e | e
    · exact s.lv y e
    · have e := List.mem_singleton.mp e
      subst e
      rfl
  · simp only [List.mem_cons, List.not_mem_nil, or_false] at hb
    rcases hb with e | e | e | e <;> subst e
    · exact ⟨_, s.S.sp, (by intro ps z; cases z), (by intro ps z; cases z)⟩
    · exact ⟨_, s.T.st, (by intro ps z; cases z), (by intro ps z; cases z)⟩
    · exact ⟨_, s.T.wl, (by intro ps z; cases z), (by intro ps z; cases z)⟩
    · exact ⟨_, s.T.pl, (by intro ps z; cases z), (by intro ps z; cases z)⟩
theorem SS.flen {C CS PT : Addr} {H : Hp} {sp dxs st dx wl pl pr rt hd : Addr} {al co least : Int} {O : List Ob} {kvs : List (Key × V)} {rs hs : List Int} (s : SS C CS PT H sp dxs st dx wl pl pr rt hd al co least O kvs rs hs) : (flat O).length ≤ 42 * 59 ∧ kvs.length ≤ 59 := by
  have h1 := flat_len (O := O) fun o ho => Nat.le_trans (s.sz o ho) (by decide)
  have h2 := s.G.kl
  have := s.len
  omega
/-- the things are those of the rows, but for what is not put yet -/
structure Fil (R : List (List Int)) (O : List Ob) (i a : Nat) : Prop where
  ix : Idx O
  it : ∀ (j : Nat) (o : Ob), O[j]? = some o → ∃ r, R[j]? = some r ∧ r[0]? = some o.kind ∧ o.sl.length + 1 = r.length ∧ ∀ b, (j < i ∨ j = i ∧ b < a) → o.sl[b]? = r[b + 1]?
theorem Fil.row {R : List (List Int)} {O : List Ob} {i : Nat} (f : Fil R O i 0) (hi : O.length ≤ i) (hl : O.length = R.length) : O.map rowOf = R := by
  refine List.ext_getElem? fun j => ?_
  rw [List.getElem?_map]
  cases e : O[j]? with
  | none =>
    have := List.getElem?_eq_none_iff.mp e
    exact (List.getElem?_eq_none_iff.mpr (by omega)).symm
  | some o =>
    obtain ⟨r, hr, h0, hlen, hb⟩ := f.it j o e
    rw [hr]
    have hj := (List.getElem?_eq_some_iff.mp e).1
    show some (o.kind :: o.sl) = some r
    congr 1
    refine List.ext_getElem? fun b => ?_
    cases b with
    | zero => rw [h0]; rfl
    | succ b => rw [List.getElem?_cons_succ, hb b (Or.inl (by omega))]
theorem Fil.next {R : List (List Int)} {O : List Ob} {i a : Nat} {r : List Int} (f : Fil R O i a) (hr : R[i]? = some r) (ha : r.length ≤ a + 1) : Fil R O (i + 1) 0 := by
  refine ⟨f.ix, fun j o ho => ?_⟩
  obtain ⟨r', hr', h0, hl, hb⟩ := f.it j o ho
  refine ⟨r', hr', h0, hl, fun b h => ?_⟩
  by_cases e : j = i
  · subst e
    rw [hr] at hr'
    cases hr'
    by_cases hb2 : b < a
    · exact hb b (Or.inr ⟨rfl, hb2⟩)
    · rw [List.getElem?_eq_none_iff.mpr (by omega), List.getElem?_eq_none_iff.mpr (by omega)]
  · exact hb b (Or.inl (by omega))
theorem Fil.put {R : List (List Int)} {O : List Ob} {i a : Nat} {r : List Int} {o : Ob} {x : Int} (f : Fil R O i a) (ho : O[i]? = some o) (hr : R[i]? = some r) (hx : r[a + 1]? = some x) : Fil R (O.set i { o with sl := o.sl.set a x }) i (a + 1) := by
  obtain ⟨r0, hr0, h0, hl, hb⟩ := f.it i o ho
  rw [hr] at hr0
  cases hr0
  have hal := (List.getElem?_eq_some_iff.mp hx).1
  refine ⟨fun j p hp => ?_, fun j p hp => ?_⟩
  · rw [set_get ho] at hp
    by_cases e : j = i
    · rw [if_pos e] at hp; cases hp
      rw [e]
      exact f.ix i o ho
    · rw [if_neg e] at hp; exact f.ix j p hp
  · rw [set_get ho] at hp
    by_cases e : j = i
    · rw [if_pos e] at hp; cases hp
      subst e
      refine ⟨r, hr, h0, by show (o.sl.set a x).length + 1 = _; rw [List.length_set]; exact hl, fun b h => ?_⟩
      show (o.sl.set a x)[b]? = _
      rw [List.getElem?_set]
      by_cases e2 : a = b
      · subst e2
        rw [if_pos rfl, if_pos (by omega), hx]
      · rw [if_neg e2]
        exact hb b (Or.inr ⟨rfl, by omega⟩)
    · rw [if_neg e] at hp
      obtain ⟨r', hr', h0', hl', hb'⟩ := f.it j p hp
      exact ⟨r', hr', h0', hl', fun b h => hb' b (Or.inl (by omega))⟩
theorem ref_at {A : List Addr} {i : Nat} {a : Addr} (h : A[i]? = some a) : (A.map V.ref)[i]? = some (V.ref a) := by rw [List.getElem?_map, h]; rfl
section
variable {P : Program} {w : World} {K : PySem.W.Frag} {mg : Str → Option Value} {base : Heap}
def sp_lspace (C CS PT : Addr) : Sp := fun vs H Q _ => ∃ (ra wa : Addr) (A : List Addr) (R : List (List Int)) (ws : List Int), vs = [.ref ra, .ref wa] ∧ H ra = some (.lst (A.map V.ref)) ∧ RwL H A R ∧ R.length ≤ 59 ∧ (∀ r ∈ R, 1 ≤ r.length ∧ r.length ≤ 26) ∧ H wa = some (.lst (ws.map V.int)) ∧ 16 ≤ ws.length ∧ ws.length ≤ 24 ∧ LamX.TabS H PT qLam ∧
  ∀ sp X O rs hs H', Spc C CS PT H' sp X O rs hs → rs ++ hs = ws → O.map rowOf = R → Idx O → (∀ b ∈ X, H b = none) → Fr [] H H' → Q (.ref sp) H'
theorem ok__law_space (W : WT P K mg base) : FnOk P w K mg base CX0 8 W.f__law_space W.fd__law_space ["_law_rows_here", "_law_words"] (sp_lspace W.c_Store W.c_Space W.PT_Store_close_up) := by
  refine W.F__law_space.ok sc__law_space (fun vs H Q E h => by obtain ⟨ra, wa, A, R, ws, rfl, hra, L, hR, hR2, hwa, h16, h20, tab, k⟩ := h; rfl) (fun cdv A outer s H vs Q E hr h => ?_)
  obtain ⟨ra, wa, A, R, ws, rfl, hra, L, hR, hR2, hwa, h16, h20, tab, k⟩ := h
  have hu1 := hu_of hr
  have hu64 := hu64_of hr
  refine ⟨_, (pss_cons (ps_set (i := 2) sc__law_space.nd rfl (by first | exact Or.inl rfl | exact Or.inr rfl) (pe_make W.M_Space (ok_Space___init__ W) (hr.mono (by decide)) rfl W.g_Space W.b_Space___init__ .nil pass0 (pa_cons pe_int (pa_cons pe_int pa_nil))))
      (pss_cons (ps_for PassesOwn.never rfl (pi_range1 (by rfl) W.n_range (pa_cons (pe_callB call_lenU (by rfl) W.n_len bb_len (pa_cons (pv 0) pa_nil)) pa_nil)) (pg_name (i := 3) sc__law_space.nd rfl (by first | exact Or.inl rfl | exact Or.inr rfl)) (pss_one (ps_if (pt_not (pt_truth (pe_call (ok__law_is W) (hr.mono (by decide)) rfl W.g__law_is W.F__law_is.kp W.b__law_is .nil pass0 (pa_cons (pe_meth (pv 2) W.C_Space W.m_Space_new (ok_Space_new W) (hr.mono (by decide)) W.b_Space_new .nil pass0 (pa_cons (pe_ix (ix_U hu1) (pe_ix (ix_U hu1) (pv 0) (pv 3) (fun _ _ => rfl)) pe_int (fun _ _ => rfl)) (pa_cons (pe_op op_sub (pe_callB call_lenU (by rfl) W.n_len bb_len (pa_cons (pe_ix (ix_U hu1) (pv 0) (pv 3) (fun _ _ => rfl)) pa_nil)) pe_int) pa_nil))) (pa_cons (pv 3) pa_nil))) (by intro _; rfl))) (pss_one (ps_ret pe_non)) pss_nil)))
      (pss_cons (ps_for PassesOwn.never rfl (pi_range1 (by rfl) W.n_range (pa_cons (pe_callB call_lenU (by rfl) W.n_len bb_len (pa_cons (pv 0) pa_nil)) pa_nil)) (pg_name (i := 3) sc__law_space.nd rfl (by first | exact Or.inl rfl | exact Or.inr rfl)) (pss_one (ps_for PassesOwn.never rfl (pi_range1 (by rfl) W.n_range (pa_cons (pe_op op_sub (pe_callB call_lenU (by rfl) W.n_len bb_len (pa_cons (pe_ix (ix_U hu1) (pv 0) (pv 3) (fun _ _ => rfl)) pa_nil)) pe_int) pa_nil)) (pg_name (i := 4) sc__law_space.nd rfl (by first | exact Or.inl rfl | exact Or.inr rfl)) (pss_one (ps_expr (pe_meth (pe_fld (pv 2) rfl) W.C_Store W.m_Store_put (ok_Store_put W) (hr.mono (by decide)) W.b_Store_put .nil pass0 (pa_cons (pv 3) (pa_cons (pv 4) (pa_cons (pe_ix (ix_U hu1) (pe_ix (ix_U hu1) (pv 0) (pv 3) (fun _ _ => rfl)) (pe_op op_addU (pv 4) pe_int) (fun _ _ => rfl)) pa_nil)))))))))
      (pss_cons (ps_for PassesOwn.never rfl (pi_range1 (by rfl) W.n_range (pa_cons (pe_callB call_lenU (by rfl) W.n_len bb_len (pa_cons (pv 1) pa_nil)) pa_nil)) (pg_name (i := 3) sc__law_space.nd rfl (by first | exact Or.inl rfl | exact Or.inr rfl)) (pss_one (ps_if (pt_cmpR op_ltU (pv 3) pe_int (by first | exact nomark _ | rfl)) (pss_one (ps_expr (pe_meth (pv 2) W.C_Space W.m_Space_set_root (ok_Space_set_root W) (hr.mono (by decide)) W.b_Space_set_root .nil pass0 (pa_cons (pv 3) (pa_cons (pe_ix (ix_U hu1) (pv 1) (pv 3) (fun _ _ => rfl)) pa_nil))))) (pss_one (ps_expr (pe_meth (pv 2) W.C_Space W.m_Space_hold (ok_Space_hold W) (hr.mono (by decide)) W.b_Space_hold .nil pass0 (pa_cons (pe_ix (ix_U hu1) (pv 1) (pv 3) (fun _ _ => rfl)) pa_nil)))))))
      (pss_one (ps_ret (pv 2))))))), ?_⟩
  refine z_start (σ := [some _, some _, none, none, none]) rfl ?_
  one_sign
  intro sp dxs hsp hdx ndx
  have hx0 : upd H dxs (.own sp) sp = none := by rw [upd_ne ndx.symm]; exact hsp
  have f0 : Fr [] H (upd (upd H dxs (.own sp)) sp (.ins W.c_Space dxs [])) := (Fr.new hdx).trans (Fr.new hx0)
  refine ⟨sp, dxs, 100000, 100000, rfl, upd_same, fun H1 st dx wl pl pr rt hd S T N old fresh => ⟨rfl, ?_⟩⟩
  have f1 : Fr [] H H1 := fun b o e _ => old b o (f0.g0 e) (ne_of_none e hsp)
  have nX : ∀ q ∈ [sp, st, wl, pl, rt, hd], H q = none := fun q hq => by
    simp only [List.mem_cons, List.not_mem_nil, or_false] at hq
    rcases hq with e | e | e | e | e | e <;> subst e
    · exact hsp
    all_goals exact f0.none (fresh _ (by simp))
  clear old fresh f0 hx0
  have ss1 : SS W.c_Store W.c_Space W.PT_Store_close_up H1 sp dxs st dx wl pl pr rt hd 0 0 0 [] [] (List.replicate 16 0) [] := ⟨S, T, N, Good.empty, by simp, by simp, by simp, by simp, by simp, by simp, tab.ext fun b o e => f1.g0 e⟩
  clear S T
  have hra1 := f1.g0 hra
  one_sign
  rw [List.length_map, L.len]
  refine z_rng1 R.length rfl (by omega) ?_
  refine for_range (lo := 0) (n := R.length) (fun i σ H' => ∃ (v3 v4 : Option V) (al least : Int) (O : List Ob) (kvs : List (Key × V)), σ = [some (.ref ra), some (.ref wa), some (.ref sp), v3, v4] ∧ SS W.c_Store W.c_Space W.PT_Store_close_up H' sp dxs st dx wl pl pr rt hd al 0 least O kvs (List.replicate 16 0) [] ∧ O.length = i ∧ Fil R O 0 0 ∧ Fr [] H H')
    ⟨_, _, _, _, [], [], rfl, ss1, rfl, ⟨fun i o h => by simp at h, fun i o h => by simp at h⟩, f1⟩ (fun i σ H2 hi hI => ?_) (fun σ H2 hI => ?_)
  · obtain ⟨v3, v4, al, least, O, kvs, rfl, ss, hO, fil, f2⟩ := hI
    obtain ⟨a, hA⟩ : ∃ a, A[i]? = some a := ⟨_, List.getElem?_eq_getElem (by rw [L.len]; exact hi)⟩
    obtain ⟨r, hRi⟩ : ∃ r, R[i]? = some r := ⟨_, List.getElem?_eq_getElem hi⟩
    have ha := f2.g0 (L.it i a r hA hRi)
    obtain ⟨l1, l2⟩ := hR2 r (List.mem_of_getElem? hRi)
    obtain ⟨x, hr0⟩ : ∃ x, r[0]? = some x := ⟨_, List.getElem?_eq_getElem (by omega)⟩
    have hra2 := f2.g0 hra
    one_sign
    refine z_meth1 ss.S.sp rfl ?_
    one_sign
    refine z_ixL hra2 (by rw [Int.zero_add]; exact atI_nat (ref_at hA)) ?_
    one_sign
    refine z_ixL ha (atI_nat (j := 0) (int_at hr0)) ?_
    one_sign
    refine z_ixL hra2 (by rw [Int.zero_add]; exact atI_nat (ref_at hA)) ?_
    one_sign
    obtain ⟨z, hz⟩ : ∃ z, r.length = z + 1 := ⟨r.length - 1, by omega⟩
    have hfl := ss.flen
    refine ⟨sp, dxs, st, pr, rt, hd, al, 0, _, _, dx, wl, pl, 100000, 100000, least, flat O, kvs, x, z, by rw [List.length_map, hz, show ((z + 1 : Nat) : Int) - 1 = (z : Int) by omega]; rfl, ss.S, ss.T, ss.N, ss.G.seen, by omega, by omega, by omega, by omega, fun m H3 S3 T3 f3 hs3 hm3 => ?_⟩
    have f3' : Fr [] H H3 := f2.inF f3 (fun q hq => nX q (by simp only [List.mem_cons, List.not_mem_nil, or_false] at hq ⊢; rcases hq with e | e | e | e <;> simp [e]))
    have ss3 := ss.add (by omega) (by omega) S3 T3 f3 hs3 hm3
    have em : m = (i : Int) := by
      have iffL := fun n => (ss.G.iff n).trans (fil.ix.live ss.lv n)
      have h1 : ¬ (m < (O.length : Int)) := fun h => by
        have := (iffL m).mpr ⟨hs3.1, h⟩
        rw [hm3] at this
        cases this
      have h2 : ¬ ((O.length : Int) < m) := fun h => by
        have := (iffL (O.length : Int)).mp (hs3.2 (O.length : Int) (by omega) h)
        omega
      omega
    one_sign
    refine ⟨_, _, rfl, ?_⟩
    one_sign
    rw [decide_eq_true (by omega : m = 0 + (i : Int))]
    one_sign
    refine ⟨_, _, al + 1, m, _, _, rfl, ss3, by rw [List.length_append, hO]; rfl, ⟨fun j o hj => ?_, fun j o hj => ?_⟩, f3'⟩
    · rcases get_snoc hj with hj | ⟨e1, e2⟩
      · exact fil.ix j o hj
      · rw [e2]; show m = (j : Int); omega
    · rcases get_snoc hj with hj | ⟨e1, e2⟩
      · exact fil.it j o hj
      · rw [e2]
        exact ⟨r, by rw [e1, hO]; exact hRi, hr0, by show (List.replicate z (0 : Int)).length + 1 = r.length; rw [List.length_replicate, hz], fun b h => by omega⟩
  obtain ⟨v3, v4, al, least, O, kvs, rfl, ss, hO, fil, f2⟩ := hI
  have hra2 := f2.g0 hra
  one_sign
  rw [List.length_map, L.len]
  refine z_rng1 R.length rfl (by omega) ?_
  refine for_range (lo := 0) (n := R.length) (fun i σ H' => ∃ (v3 v4 : Option V) (O : List Ob), σ = [some (.ref ra), some (.ref wa), some (.ref sp), v3, v4] ∧ SS W.c_Store W.c_Space W.PT_Store_close_up H' sp dxs st dx wl pl pr rt hd al 0 least O kvs (List.replicate 16 0) [] ∧ O.length = R.length ∧ Fil R O i 0 ∧ Fr [] H H')
    ⟨_, _, _, rfl, ss, hO, fil, f2⟩ (fun i σ H2 hi hI => ?_) (fun σ H3 hI => ?_)
  · obtain ⟨v3, v4, O, rfl, ss, hO, fil, f2⟩ := hI
    obtain ⟨a, hA⟩ : ∃ a, A[i]? = some a := ⟨_, List.getElem?_eq_getElem (by rw [L.len]; exact hi)⟩
    obtain ⟨r, hRi⟩ : ∃ r, R[i]? = some r := ⟨_, List.getElem?_eq_getElem hi⟩
    have ha := f2.g0 (L.it i a r hA hRi)
    obtain ⟨l1, l2⟩ := hR2 r (List.mem_of_getElem? hRi)
    have hra2 := f2.g0 hra
    one_sign
    refine z_ixL hra2 (by rw [Int.zero_add]; exact atI_nat (ref_at hA)) ?_
    one_sign
    rw [List.length_map]
    obtain ⟨z, hz⟩ : ∃ z, r.length = z + 1 := ⟨r.length - 1, by omega⟩
    refine z_rng1 z (by omega) (by omega) ?_
    refine for_range (lo := 0) (n := z) (fun j σ H' => ∃ (v4 : Option V) (O : List Ob), σ = [some (.ref ra), some (.ref wa), some (.ref sp), some (.int (0 + (i : Int))), v4] ∧ SS W.c_Store W.c_Space W.PT_Store_close_up H' sp dxs st dx wl pl pr rt hd al 0 least O kvs (List.replicate 16 0) [] ∧ O.length = R.length ∧ Fil R O i j ∧ Fr [] H H')
      ⟨_, _, rfl, ss, hO, fil, f2⟩ (fun j σ H3 hj hI => ?_) (fun σ H3 hI => ?_)
    · obtain ⟨v4, O, rfl, ss, hO, fil, f3⟩ := hI
      have hra3 := f3.g0 hra
      have ha3 := f3.g0 (L.it i a r hA hRi)
      have T3 := ss.T
      have hst := ss.T.st
      have hsp3 := ss.S.sp
      obtain ⟨x, hx⟩ : ∃ x, r[j + 1]? = some x := ⟨_, List.getElem?_eq_getElem (by omega)⟩
      obtain ⟨o, ho⟩ : ∃ o, O[i]? = some o := ⟨_, List.getElem?_eq_getElem (by omega)⟩
      one_sign
      refine z_ixL hra3 (by rw [Int.zero_add]; exact atI_nat (ref_at hA)) ?_
      one_sign
      refine z_ixL ha3 (by rw [Int.zero_add]; exact atI_nat (j := j + 1) (int_at hx)) ?_
      one_sign
      obtain ⟨r', hr', h0, hl, hb⟩ := fil.it i o ho
      rw [hRi] at hr'
      cases hr'
      have hol := off_lt ho
      have hlo := ss.lv o (List.mem_of_getElem? ho)
      have hno := fil.ix i o ho
      refine ⟨st, dx, wl, pl, _, _, least, _, kvs, (i : Int), off O i, j, x, by rw [Int.zero_add, Int.zero_add]; rfl, T3, by rw [← hno]; exact ss.G.at ho hlo, by omega, ?_⟩
      rw [set_slot x ho (by omega)]
      one_sign
      have ss' := ss.change (o' := { o with sl := o.sl.set j x }) ho rfl rfl (by show (o.sl.set j x).length = _; rw [List.length_set]) (Fr.at (H := H3) (q := wl) (o := .lst ((flat (O.set i { o with sl := o.sl.set j x })).map V.int)) (by simp)) upd_same
      exact ⟨_, _, rfl, ss', by rw [List.length_set]; exact hO, fil.put ho hRi hx, f3.inF (Fr.at (F := [wl]) (by simp)) (fun q hq => nX q (by simp at hq; simp [hq]))⟩
    · obtain ⟨v4, O, rfl, ss, hO, fil, f3⟩ := hI
      one_sign
      exact ⟨_, _, O, rfl, ss, hO, fil.next hRi (by omega), f3⟩
  obtain ⟨v3, v4, O, rfl, ss, hO, fil, f3⟩ := hI
  have hrow := fil.row (by omega) hO
  have hidx := fil.ix
  have hwa3 := f3.g0 hwa
  one_sign
  rw [List.length_map]
  refine z_rng1 ws.length rfl (by omega) ?_
  refine for_range (lo := 0) (n := ws.length) (fun i σ H' => ∃ (v3 v4 : Option V) (rs hs : List Int), σ = [some (.ref ra), some (.ref wa), some (.ref sp), v3, v4] ∧ SS W.c_Store W.c_Space W.PT_Store_close_up H' sp dxs st dx wl pl pr rt hd al 0 least O kvs rs hs ∧ (i ≤ 16 → hs = [] ∧ rs.take i = ws.take i) ∧ (16 ≤ i → rs ++ hs = ws.take i) ∧ Fr [] H H')
    ⟨_, _, _, [], rfl, ss, fun _ => ⟨rfl, rfl⟩, fun h => by omega, f3⟩ (fun i σ H4 hi hI => ?_) (fun σ H4 hI => ?_)
  · obtain ⟨v3, v4, rs, hs, rfl, ss, h1, h2, f4⟩ := hI
    have hwa4 := f4.g0 hwa
    obtain ⟨x, hx⟩ : ∃ x, ws[i]? = some x := ⟨_, List.getElem?_eq_getElem hi⟩
    have hsp4 := ss.S.sp
    one_sign
    have rl := ss.rl
    refine iteD (fun h => ?_) (fun h => ?_)
    · have h : 0 + (i : Int) < 16 := h
      one_sign
      refine z_ixL hwa4 (by rw [Int.zero_add]; exact atI_nat (int_at hx)) ?_
      one_sign
      refine ⟨sp, dxs, st, pr, rt, hd, al, 0, rs, hs, i, x, by rw [Int.zero_add]; rfl, ss.S, by omega, ?_⟩
      one_sign
      have ss' := ss.root (rs' := rs.set i x) (by rw [List.length_set]) (Fr.at (H := H4) (q := rt) (o := .lst ((rs.set i x).map V.int)) (by simp)) upd_same
      obtain ⟨e1, e2⟩ := h1 (by omega)
      have e3 : (rs.set i x).take (i + 1) = ws.take (i + 1) := by
        rw [List.take_succ, List.take_succ, List.take_set_of_le (Nat.le_refl _), e2, List.getElem?_set_self (by omega), hx]
      refine ⟨_, _, _, hs, rfl, ss', fun _ => ⟨e1, e3⟩, fun h16 => ?_, f4.inF (Fr.at (F := [rt]) (by simp)) (fun q hq => nX q (by simp at hq; simp [hq]))⟩
      rw [e1, List.append_nil, ← e3]
      exact (List.take_of_length_le (by rw [List.length_set]; omega)).symm
    · have h : ¬ 0 + (i : Int) < 16 := h
      one_sign
      refine z_ixL hwa4 (by rw [Int.zero_add]; exact atI_nat (int_at hx)) ?_
      one_sign
      have e2 := h2 (by omega)
      have hh : hs.length + 16 = i := by
        have := congrArg List.length e2
        rw [List.length_append, List.length_take] at this
        omega
      refine ⟨sp, dxs, st, pr, rt, hd, al, 0, rs, hs, x, rfl, ss.S, by have := ss.hl; omega, ?_⟩
      one_sign
      have ss' := ss.held (hs' := hs ++ [x]) (by rw [List.length_append]; show hs.length + 1 ≤ 8; omega) (Fr.at (H := H4) (q := hd) (o := .lst ((hs ++ [x]).map V.int)) (by simp)) upd_same
      refine ⟨_, _, _, _, rfl, ss', fun h => by omega, fun _ => ?_, f4.inF (Fr.at (F := [hd]) (by simp)) (fun q hq => nX q (by simp at hq; simp [hq]))⟩
      rw [← List.append_assoc, e2, List.take_succ, hx]
      rfl
  · obtain ⟨v3, v4, rs, hs, rfl, ss, h1, h2, f4⟩ := hI
    one_sign
    exact k sp _ O rs hs H4 ⟨_, _, _, _, _, _, _, _, _, _, _, _, rfl, ss⟩ (by rw [h2 h16, List.take_length]) hrow hidx nX f4
end

end LX
namespace LX
open PySem PySem.Spec PyProof.Rows L2 NdefX
/-! ### walks along paths, plainly -/
def nextRow (R : List (List Int)) (w : Int) : Option (List Int) := if w % 2 = 0 ∧ 0 ≤ w then R[(w / 2).toNat]? else none
def stepW (row : List Int) (k : Int) : Option Int := if 0 ≤ k then row[k.toNat]? else none
def wst (R : List (List Int)) (r0 : List Int) (s : Option (Option Int)) (k : Int) : Option (Option Int) := match s with
  | none => none
  | some none => (stepW r0 k).map some
  | some (some w) => ((nextRow R w).bind fun row => stepW row k).map some
def walkS (R : List (List Int)) (r0 p : List Int) : Option (Option Int) := p.foldl (wst R r0) (some none)
def walkW (R : List (List Int)) (r0 p : List Int) : Option Int := (walkS R r0 p).bind id
theorem wst_dead (R : List (List Int)) (r0 : List Int) : ∀ l : List Int, l.foldl (wst R r0) none = none
  | [] => rfl
  | _ :: l => wst_dead R r0 l
theorem walkS_take {R : List (List Int)} {r0 p : List Int} {i : Nat} {k : Int} (h : p[i]? = some k) : walkS R r0 (p.take (i + 1)) = wst R r0 (walkS R r0 (p.take i)) k := by
  unfold walkS
  rw [List.take_succ, h, List.foldl_append]
  rfl
theorem walkS_dead {R : List (List Int)} {r0 p : List Int} {i : Nat} (h : walkS R r0 (p.take i) = none) : walkW R r0 p = none := by
  have e : walkS R r0 p = (p.drop i).foldl (wst R r0) (walkS R r0 (p.take i)) := by
    unfold walkS
    rw [← List.foldl_append, List.take_append_drop]
  unfold walkW
  rw [e, h, wst_dead]
  rfl
theorem stepW_in {row : List Int} {k : Int} (h0 : 0 ≤ k) (h1 : k < row.length) : ∃ w, stepW row k = some w ∧ row[k.toNat]? = some w := by
  have e := List.getElem?_eq_getElem (l := row) (i := k.toNat) (by omega)
  exact ⟨_, by unfold stepW; rw [if_pos h0, e], e⟩
theorem stepW_out {row : List Int} {k : Int} (h : ¬ (0 ≤ k ∧ k < row.length)) : stepW row k = none := by
  unfold stepW
  split
  · exact List.getElem?_eq_none_iff.mpr (by omega)
  · rfl
/-! ### the layers of the search, plainly -/
def objN (R : List (List Int)) (w : Int) : Option Int := if w % 2 = 0 ∧ 0 ≤ w / 2 ∧ w / 2 < R.length then some (w / 2) else none
def rowN (R : List (List Int)) (n : Int) : List Int := R.getD n.toNat []
theorem objN_ok {R : List (List Int)} {w n : Int} (h : objN R w = some n) : w % 2 = 0 ∧ n = w / 2 ∧ 0 ≤ n ∧ n < R.length := by
  unfold objN at h
  split at h
  · rename_i hc
    cases h
    exact ⟨hc.1, rfl, hc.2⟩
  · cases h
section
variable {O : List Ob} {R : List (List Int)}
theorem objN_live (hO : O.map rowOf = R) (ix : Idx O) (lv : ∀ o ∈ O, o.live = true) {w n : Int} : objN R w = some n ↔ w % 2 = 0 ∧ Live O (w / 2) ∧ n = w / 2 := by
  have hl : R.length = O.length := by rw [← hO, List.length_map]
  rw [ix.live lv]
  unfold objN
  rw [hl]
  split
  · rename_i h
    constructor
    · intro e; cases e; exact ⟨h.1, h.2, rfl⟩
    · rintro ⟨_, _, e⟩; rw [e]
  · rename_i h
    constructor
    · intro e; cases e
    · rintro ⟨h1, h2, _⟩; exact absurd ⟨h1, h2⟩ h
theorem row_at (hO : O.map rowOf = R) {i : Nat} {o : Ob} (h : O[i]? = some o) : rowN R (i : Int) = rowOf o := by
  unfold rowN
  rw [Int.toNat_natCast, ← hO, List.getD_eq_getElem?_getD, List.getElem?_map, h]
  rfl
end

end LX
namespace LX
open PySem PySem.Spec PyProof.Rows L2 NdefX
set_option hygiene false in
local macro_rules | `(tactic| k_memK) => `(tactic| first | exact W.na_Comparison_one | exact W.na_Comparison_other | exact W.na_Comparison_there | exact W.na_Comparison_back | exact W.na_Comparison_first | exact W.na_Store_room | exact W.na_Store_entries | exact W.na_Store_words | exact W.na_Store__places | exact W.na_Store__least | exact W.na_Space_store | exact W.na_Space_pressure | exact W.na_Space_always | exact W.na_Space_allocations | exact W.na_Space_collections | exact W.na_Space__roots | exact W.na_Space__held | exact W.na_Space__saved)
set_option hygiene false in
local macro_rules | `(tactic| k_ownIn) => `(tactic| first | exact W.C_Comparison | exact W.C_Store | exact W.C_Space)
local macro_rules | `(tactic| none_booked) => `(tactic| first | assumption | (refine Fr.g0 (by assumption) ?_; none_booked))
local macro_rules | `(tactic| one_sign) => `(tactic| repeat (first
  | refine Stp.h ?_
  | ((with_reducible refine' z_fld1 ?k0 ?k1 ?k2 ?k3 ?_); (case k0 => none_booked); (case k1 => k_ownIn); (case k2 => k_memK); (case k3 => rfl))
  | ((with_reducible refine' z_meth1 ?k0 ?k1 ?_); (case k0 => none_booked); (case k1 => rfl))
  | ((with_reducible refine' z_bmL ?k0 ?_); (case k0 => none_booked))
  | ((with_reducible refine' z_lenL ?k0 ?_); (case k0 => none_booked))
  | ((with_reducible refine' z_lenT ?k0 ?_); (case k0 => none_booked))
  | ((with_reducible refine' z_lenD ?k0 ?_); (case k0 => none_booked))
  | ((with_reducible refine' z_truL ?k0 ?_); (case k0 => none_booked))
  | ((with_reducible refine' z_truD ?k0 ?_); (case k0 => none_booked))
  | ((with_reducible refine' z_truT ?k0 ?_); (case k0 => none_booked))
  | ((with_reducible refine' z_inDIP ?k0 ?_); (case k0 => none_booked))
  | ((with_reducible refine' z_inDIN ?k0 ?_); (case k0 => none_booked))
  | ((with_reducible refine' z_inDfP ?k0 ?_); (case k0 => none_booked))
  | ((with_reducible refine' z_inDfN ?k0 ?_); (case k0 => none_booked))
  | ((with_reducible refine' z_iList1 ?k0 ?_); (case k0 => none_booked))
  | ((with_reducible refine' z_isi0 ?k0 ?k1 ?k2 ?_); (case k0 => exact (ClsV.ty _)); (case k1 => exact (TyX.base (TyOf.lst (by none_booked)))); (case k2 => first | exact kt_list_int | exact kt_list_bool | exact kt_list_str | exact kt_list_list | exact kt_list_tuple | exact kt_list_dict))
  | ((with_reducible refine' z_rI ?k0 ?_); (case k0 => first | exact (by decide : (0 : Int) < _) | exact ⟨by decide, by decide⟩ | exact ⟨by decide, by decide, by decide⟩ | (show (0 : Int) < _; omega)))
  | ((with_reducible refine' z_mulI ?k0 ?_); (case k0 => first | exact Or.inr ⟨by decide, by decide⟩ | exact Or.inl ⟨by decide, by decide⟩ | exact Or.inl ⟨by omega, by omega⟩ | exact Or.inr ⟨by omega, by omega⟩))))
local macro_rules | `(tactic| leaf_len) => `(tactic| (simp only [wipe, List.map_cons, List.map_nil, List.set_cons_zero, List.set_cons_succ]; one_sign; refine z_ok rfl ?_; one_sign))
section
variable {P : Program} {w : World} {K : PySem.W.Frag} {mg : Str → Option Value} {base : Heap}
def optV : Option Int → V
  | none => .non
  | some w => .int w
theorem nextRow_at {O : List Ob} {R : List (List Int)} (hO : O.map rowOf = R) {x : Int} {j : Nat} {o : Ob} (ho : O[j]? = some o) (h0 : x % 2 = 0) (h : x / 2 = (j : Int)) : nextRow R x = some (rowOf o) := by
  unfold nextRow
  rw [if_pos ⟨h0, by omega⟩, h, Int.toNat_natCast, ← hO, List.getElem?_map, ho]; rfl
theorem nextRow_no {O : List Ob} {R : List (List Int)} (hO : O.map rowOf = R) (ix : Idx O) (lv : ∀ o ∈ O, o.live = true) {x : Int} (h : ¬ (x % 2 = 0 ∧ Live O (x / 2))) : nextRow R x = none := by
  unfold nextRow
  split
  · rename_i hc
    refine List.getElem?_eq_none_iff.mpr ?_
    rw [← hO, List.length_map]
    refine Classical.byContradiction fun z => h ⟨hc.1, (ix.live lv _).mpr ⟨by omega, by omega⟩⟩
  · rfl
def sp_wordat (C CS PT : Addr) : Sp := fun vs H Q _ => ∃ sp pa X O rs hs R p, vs = [.ref sp, .ref pa] ∧ Spc C CS PT H sp X O rs hs ∧ O.map rowOf = R ∧ Idx O ∧ H pa = some (.tup (p.map V.int)) ∧ p.length ≤ 1000 ∧
  ∀ H', Fr [] H H' → Q (optV (walkW R (0 :: (rs ++ hs)) p)) H'
theorem ok_word_at (W : WT P K mg base) : FnOk P w K mg base CX0 4 W.f_word_at W.fd_word_at ["space", "path"] (sp_wordat W.c_Store W.c_Space W.PT_Store_close_up) := by
  refine W.F_word_at.ok sc_word_at (fun vs H Q E h => by obtain ⟨sp, pa, X, O, rs, hs, R, p, rfl, S0, hO, ix, hpa, hp, k⟩ := h; rfl) (fun cdv A outer s H vs Q E hr h => ?_)
  obtain ⟨sp, pa, X, O, rs, hs, R, p, rfl, S0, hO, ix, hpa, hp, k⟩ := h
  have hu1 := hu_of hr
  have hu64 := hu64_of hr
  refine ⟨_, (pss_cons (ps_set (i := 2) sc_word_at.nd rfl (by first | exact Or.inl rfl | exact Or.inr rfl) (pe_meth0 (pv 0) W.C_Space W.m_Space_all_roots (ok_Space_all_roots W) (hr.mono (by decide)) W.b_Space_all_roots .nil pass0 ))
      (pss_cons (ps_set (i := 3) sc_word_at.nd rfl (by first | exact Or.inl rfl | exact Or.inr rfl) pe_non)
      (pss_cons (ps_for PassesOwn.never rfl (pi_range1 (by rfl) W.n_range (pa_cons (pe_callB call_lenU (by rfl) W.n_len bb_len (pa_cons (pv 1) pa_nil)) pa_nil)) (pg_name (i := 4) sc_word_at.nd rfl (by first | exact Or.inl rfl | exact Or.inr rfl)) (Evl.pss_cut (ps_if (pt_cmpR op_gtU (pv 4) pe_int (by first | exact nomark _ | rfl)) (pss_cons (ps_set (i := 5) sc_word_at.nd rfl (by first | exact Or.inl rfl | exact Or.inr rfl) (pe_call (ok_object_of W) (hr.mono (by decide)) rfl W.g_object_of W.F_object_of.kp W.b_object_of .nil pass0 (pa_cons (pv 0) (pa_cons (pv 3) pa_nil))))
      (pss_cons (ps_if (pt_cmpR op_isU (pv 5) pe_non (by first | exact nomark _ | rfl)) (pss_one (ps_ret pe_non)) pss_nil)
      (pss_one (ps_set (i := 2) sc_word_at.nd rfl (by first | exact Or.inl rfl | exact Or.inr rfl) (pe_call (ok_row_of W) (hr.mono (by decide)) rfl W.g_row_of W.F_row_of.kp W.b_row_of .nil pass0 (pa_cons (pv 0) (pa_cons (pv 5) pa_nil))))))) pss_nil)
      (pss_cons (ps_if (pt_not (pt_chain op_leU op_ltU pe_int (pe_ix (ix_U hu1) (pv 1) (pv 4) (fun _ _ => rfl)) (pe_callB call_lenU (by rfl) W.n_len bb_len (pa_cons (pv 2) pa_nil)))) (pss_one (ps_ret pe_non)) pss_nil)
      (pss_one (ps_set (i := 3) sc_word_at.nd rfl (by first | exact Or.inl rfl | exact Or.inr rfl) (pe_ix (ix_U hu1) (pv 2) (pe_ix (ix_U hu1) (pv 1) (pv 4) (fun _ _ => rfl)) (fun _ _ => rfl)))))))
      (pss_one (ps_ret (pv 3)))))), ?_⟩
  refine z_start (σ := [some _, some _, none, none, none, none]) rfl ?_
  one_sign
  obtain ⟨dxs, st, dx, wl, pl, pr, rt, hd, al, co, least, kvs, rfl, ss⟩ := S0
  have hsp := ss.S.sp
  one_sign
  refine ⟨sp, dxs, st, pr, rt, hd, al, co, rs, hs, rfl, ss.S, by have := ss.rl; omega, by have := ss.hl; omega, fun ra H1 hra hra0 f1 => ?_⟩
  one_sign
  rw [List.length_map]
  generalize hr0 : 0 :: (rs ++ hs) = r0 at hra k
  refine z_rng1 p.length rfl (by omega) ?_
  refine for_range (lo := 0) (n := p.length) (fun i σ H' => ∃ (ra : Addr) (row : List Int) (sv : Option Int) (v4 v5 : Option V), σ = [some (.ref sp), some (.ref pa), some (.ref ra), some (optV sv), v4, v5] ∧ walkS R r0 (p.take i) = some sv ∧ H' ra = some (.lst (row.map V.int)) ∧ (i = 0 → row = r0 ∧ sv = none) ∧ (0 < i → ∃ w, sv = some w) ∧ row.length ≤ 1000 ∧ Fr [] H H')
    ⟨ra, r0, none, _, _, rfl, rfl, hra, fun _ => ⟨rfl, rfl⟩, fun h => by omega, by rw [← hr0, List.length_cons, List.length_append]; have := ss.rl; have := ss.hl; omega, f1⟩ (fun i σ H2 hi hI => ?_) (fun σ H2 hI => ?_)
  · obtain ⟨ra, row, sv, v4, v5, rfl, hw, hra2, hi0, hi1, hrl, f2⟩ := hI
    obtain ⟨kk, hk⟩ : ∃ kk, p[i]? = some kk := ⟨_, List.getElem?_eq_getElem hi⟩
    have hnext := walkS_take (R := R) (r0 := r0) hk
    rw [hw] at hnext
    have ss2 := ss.keep f2
    have hpa2 := f2.g0 hpa
    one_sign
    refine Evl.q_cut (M := fun σ H' => ∃ (ra : Addr) (row : List Int) (v5 : Option V), σ = [some (.ref sp), some (.ref pa), some (.ref ra), some (optV sv), some (.int (0 + (i : Int))), v5] ∧ H' ra = some (.lst (row.map V.int)) ∧ (∀ k, wst R r0 (some sv) k = (stepW row k).map some) ∧ row.length ≤ 1000 ∧ Fr [] H H') ?_ ?_
    · one_sign
      refine iteD (fun h => ?_) (fun h => ?_)
      · have h : (0 : Int) < 0 + (i : Int) := h
        obtain ⟨x, rfl⟩ := hi1 (by omega)
        one_sign
        refine ⟨sp, dxs, st, pr, rt, hd, al, co, rs, hs, dx, wl, pl, _, _, least, O, kvs, x, rfl, ss2.S, ss2.T, ss2.G, fun he hlv => ?_, fun hno => ?_⟩
        · one_sign
          obtain ⟨j, o, ho, hlo, hno⟩ := hlv
          rw [← hno]
          refine ⟨sp, dxs, st, pr, rt, hd, al, co, rs, hs, dx, wl, pl, _, _, least, O, kvs, j, o, rfl, ss2.S, ss2.T, ss2.G, ho, hlo, Nat.le_trans (ss.sz o (List.mem_of_getElem? ho)) (by decide), fun q H3 hq q3 f3 => ?_⟩
          one_sign
          have hj := ix j o ho
          refine ⟨q, rowOf o, _, rfl, q3, fun k => ?_, by show o.sl.length + 1 ≤ 1000; have := ss.sz o (List.mem_of_getElem? ho); omega, f2.trans f3⟩
          show ((nextRow R x).bind fun row => stepW row k).map some = _
          rw [nextRow_at hO ho he (by rw [← hno, hj])]
          rfl
        · one_sign
          have e : walkW R r0 p = none := walkS_dead (i := i + 1) (by
            rw [hnext]
            show ((nextRow R x).bind fun row => stepW row kk).map some = _
            rw [nextRow_no hO ix ss.lv hno]
            rfl)
          rw [e] at k
          exact k H2 f2
      · have h : ¬ (0 : Int) < 0 + (i : Int) := h
        obtain ⟨rfl, rfl⟩ := hi0 (by omega)
        one_sign
        exact ⟨ra, row, _, rfl, hra2, fun k => rfl, hrl, f2⟩
    rintro σ H3 ⟨ra, row, v5, rfl, hra3, hst, hrl, f3⟩
    rw [hst] at hnext
    have hpa3 := f3.g0 hpa
    have none : ¬ (0 ≤ kk ∧ kk < row.length) → Q V.non H3 := fun h => by
      have e : walkW R r0 p = .none := walkS_dead (i := i + 1) (by rw [hnext, stepW_out h]; rfl)
      rw [e] at k
      exact k H3 f3
    one_sign
    refine z_ixT hpa3 (by rw [Int.zero_add]; exact atI_nat (int_at hk)) ?_
    one_sign
    refine iteD (fun h1 => ?_) (fun h1 => ?_)
    · have h1 : 0 ≤ kk := h1
      one_sign
      rw [List.length_map]
      refine iteND (fun h2 => ?_) (fun h2 => ?_)
      · one_sign
        exact none fun z => h2 z.2
      · have h2 : kk < (row.length : Int) := h2
        obtain ⟨x, hx1, hx2⟩ := stepW_in h1 h2
        one_sign
        refine z_ixT hpa3 (by rw [Int.zero_add]; exact atI_nat (int_at hk)) ?_
        one_sign
        refine z_ixL hra3 (by rw [show kk = (kk.toNat : Int) by omega]; exact atI_nat (int_at hx2)) ?_
        one_sign
        exact ⟨ra, row, some x, _, _, rfl, by rw [hnext, hx1]; rfl, hra3, fun h => by omega, fun _ => ⟨x, rfl⟩, hrl, f3⟩
    · one_sign
      exact none fun z => h1 z.1
  · obtain ⟨ra, row, sv, v4, v5, rfl, hw, hra2, hi0, hi1, hrl, f2⟩ := hI
    rw [List.take_length] at hw
    one_sign
    have e : walkW R r0 p = sv := by unfold walkW; rw [hw]; rfl
    rw [← e]
    exact k H2 f2
end

end LX
namespace LX
open PySem PySem.Spec PyProof.Rows L2 NdefX
theorem stepW_mem {row : List Int} {k w : Int} (h : stepW row k = some w) : w ∈ row := by
  unfold stepW at h
  split at h
  · exact List.mem_of_getElem? h
  · cases h
theorem nextRow_mem {R : List (List Int)} {w : Int} {row : List Int} (h : nextRow R w = some row) : row ∈ R := by
  unfold nextRow at h
  split at h
  · exact List.mem_of_getElem? h
  · cases h
theorem wst_evn {R : List (List Int)} {r0 : List Int} (hR : ∀ r ∈ R, ∀ x ∈ r, Evn x) (h0 : ∀ x ∈ r0, Evn x) {s : Option (Option Int)} {k : Int} {w : Int} (h : wst R r0 s k = some (some w)) : Evn w := by
  cases s with
  | none => cases h
  | some s => cases s with
    | none =>
      obtain ⟨x, hx, e⟩ := Option.map_eq_some_iff.mp (show (stepW r0 k).map some = some (some w) from h)
      cases e
      exact h0 _ (stepW_mem hx)
    | some v =>
      obtain ⟨x, hx, e⟩ := Option.map_eq_some_iff.mp (show ((nextRow R v).bind fun row => stepW row k).map some = some (some w) from h)
      cases e
      obtain ⟨row, hr, hs⟩ := Option.bind_eq_some_iff.mp hx
      exact hR row (nextRow_mem hr) _ (stepW_mem hs)
theorem walkS_evn {R : List (List Int)} {r0 : List Int} (hR : ∀ r ∈ R, ∀ x ∈ r, Evn x) (h0 : ∀ x ∈ r0, Evn x) {p : List Int} {w : Int} (h : walkS R r0 p = some (some w)) : Evn w := by
  rcases List.eq_nil_or_concat p with e | ⟨q, k, e⟩
  · subst e; cases h
  · subst e
    unfold walkS at h
    rw [List.concat_eq_append, List.foldl_append] at h
    exact wst_evn hR h0 h
section
variable {P : Program} {w : World} {K : PySem.W.Frag} {mg : Str → Option Value} {base : Heap}
/-- a list or tuple of numbers -/
def Sq (H : Hp) (a : Addr) (p : List Int) : Prop := H a = some (.lst (p.map V.int)) ∨ H a = some (.tup (p.map V.int))
theorem Sq.keep {H H' : Hp} {a : Addr} {p : List Int} (h : Sq H a p) (f : Fr [] H H') : Sq H' a p := h.imp f.g0 f.g0
theorem z_lenE {H : Hp} {Q : VK} {a : Addr} {p : List Int} (h1 : Sq H a p) (h : Q (.int p.length) H) : rLenU K [.ref a] H Q := by
  rcases h1 with h1 | h1
  · exact z_lenL h1 (by rw [List.length_map]; exact h)
  · exact z_lenT h1 (by rw [List.length_map]; exact h)
theorem z_ixE {H : Hp} {Q : VK} {a : Addr} {p : List Int} {i : Nat} {x : Int} (h1 : Sq H a p) (h2 : p[i]? = some x) (h : Q (.int x) H) : rIxU K (.ref a) (.int (0 + (i : Int))) H Q := by
  rw [Int.zero_add]
  rcases h1 with h1 | h1
  · exact z_ixL h1 (atI_nat (int_at h2)) h
  · exact z_ixT h1 (atI_nat (int_at h2)) h
/-- the law's own rows -/
structure LR (H : Hp) (ra wa : Addr) (A : List Addr) (R : List (List Int)) (ws : List Int) : Prop where
  ra : H ra = some (.lst (A.map V.ref))
  rows : RwL H A R
  wa : H wa = some (.lst (ws.map V.int))
  eR : ∀ r ∈ R, ∀ x ∈ r, Evn x
  eW : ∀ x ∈ ws, Evn x
  lR : R.length ≤ 59
  lr : ∀ r ∈ R, 1 ≤ r.length ∧ r.length ≤ 26
  lw : 16 ≤ ws.length ∧ ws.length ≤ 24
theorem LR.keep {H H' : Hp} {ra wa : Addr} {A : List Addr} {R : List (List Int)} {ws : List Int} (h : LR H ra wa A R ws) (f : Fr [] H H') : LR H' ra wa A R ws := ⟨f.g0 h.ra, h.rows.mono f, f.g0 h.wa, h.eR, h.eW, h.lR, h.lr, h.lw⟩
theorem LR.e0 {H : Hp} {ra wa : Addr} {A : List Addr} {R : List (List Int)} {ws : List Int} (h : LR H ra wa A R ws) : ∀ x ∈ 0 :: ws, Evn x := fun x hx => by
  rcases List.mem_cons.mp hx with e | e
  · rw [e]; intro _; omega
  · exact h.eW x e
end

end LX
namespace LX
open PySem PySem.Spec PyProof.Rows L2 NdefX
set_option hygiene false in
local macro_rules | `(tactic| k_memK) => `(tactic| first | exact W.na_Comparison_one | exact W.na_Comparison_other | exact W.na_Comparison_there | exact W.na_Comparison_back | exact W.na_Comparison_first | exact W.na_Store_room | exact W.na_Store_entries | exact W.na_Store_words | exact W.na_Store__places | exact W.na_Store__least | exact W.na_Space_store | exact W.na_Space_pressure | exact W.na_Space_always | exact W.na_Space_allocations | exact W.na_Space_collections | exact W.na_Space__roots | exact W.na_Space__held | exact W.na_Space__saved)
set_option hygiene false in
local macro_rules | `(tactic| k_ownIn) => `(tactic| first | exact W.C_Comparison | exact W.C_Store | exact W.C_Space)
local macro_rules | `(tactic| none_booked) => `(tactic| first | assumption | (refine Fr.g0 (by assumption) ?_; none_booked))
local macro_rules | `(tactic| one_sign) => `(tactic| repeat (first
  | refine Stp.h ?_
  | ((with_reducible refine' z_fld1 ?k0 ?k1 ?k2 ?k3 ?_); (case k0 => none_booked); (case k1 => k_ownIn); (case k2 => k_memK); (case k3 => rfl))
  | ((with_reducible refine' z_meth1 ?k0 ?k1 ?_); (case k0 => none_booked); (case k1 => rfl))
  | ((with_reducible refine' z_bmL ?k0 ?_); (case k0 => none_booked))
  | ((with_reducible refine' z_lenL ?k0 ?_); (case k0 => none_booked))
  | ((with_reducible refine' z_lenT ?k0 ?_); (case k0 => none_booked))
  | ((with_reducible refine' z_lenD ?k0 ?_); (case k0 => none_booked))
  | ((with_reducible refine' z_truL ?k0 ?_); (case k0 => none_booked))
  | ((with_reducible refine' z_truD ?k0 ?_); (case k0 => none_booked))
  | ((with_reducible refine' z_truT ?k0 ?_); (case k0 => none_booked))
  | ((with_reducible refine' z_inDIP ?k0 ?_); (case k0 => none_booked))
  | ((with_reducible refine' z_inDIN ?k0 ?_); (case k0 => none_booked))
  | ((with_reducible refine' z_inDfP ?k0 ?_); (case k0 => none_booked))
  | ((with_reducible refine' z_inDfN ?k0 ?_); (case k0 => none_booked))
  | ((with_reducible refine' z_iList1 ?k0 ?_); (case k0 => none_booked))
  | ((with_reducible refine' z_isi0 ?k0 ?k1 ?k2 ?_); (case k0 => exact (ClsV.ty _)); (case k1 => exact (TyX.base (TyOf.lst (by none_booked)))); (case k2 => first | exact kt_list_int | exact kt_list_bool | exact kt_list_str | exact kt_list_list | exact kt_list_tuple | exact kt_list_dict))
  | ((with_reducible refine' z_rI ?k0 ?_); (case k0 => first | exact (by decide : (0 : Int) < _) | exact ⟨by decide, by decide⟩ | exact ⟨by decide, by decide, by decide⟩ | (show (0 : Int) < _; omega)))
  | ((with_reducible refine' z_mulI ?k0 ?_); (case k0 => first | exact Or.inr ⟨by decide, by decide⟩ | exact Or.inl ⟨by decide, by decide⟩ | exact Or.inl ⟨by omega, by omega⟩ | exact Or.inr ⟨by omega, by omega⟩))))
local macro_rules | `(tactic| leaf_len) => `(tactic| (simp only [wipe, List.map_cons, List.map_nil, List.set_cons_zero, List.set_cons_succ]; one_sign; refine z_ok rfl ?_; one_sign))
section
variable {P : Program} {w : World} {K : PySem.W.Frag} {mg : Str → Option Value} {base : Heap}
theorem SS.numsP {C CS PT : Addr} {H : Hp} {sp dxs st dx wl pl pr rt hd : Addr} {al co least : Int} {O : List Ob} {kvs : List (Key × V)} {rs hs : List Int} (s : SS C CS PT H sp dxs st dx wl pl pr rt hd al co least O kvs rs hs) : ∃ ms : List Int, kvs.map (·.1) = ms.map Sum.inl ∧ ms.Perm (O.map (·.num)) := by
  obtain ⟨ms, m1, m2⟩ := s.G.ints
  have : O.filter (·.live) = O := List.filter_eq_self.mpr s.lv
  rw [this] at m2
  exact ⟨ms, m1, m2⟩
def upto (n : Nat) : List Int := (List.range n).map fun i : Nat => (i : Int)
theorem upto_sorted (n : Nat) : (upto n).Pairwise (· ≤ ·) := by
  unfold upto
  refine List.pairwise_map.mpr ((List.pairwise_lt_range).imp fun h => by omega)
theorem nums_upto {O : List Ob} (ix : Idx O) : O.map (·.num) = upto O.length := by
  refine List.ext_getElem? fun i => ?_
  unfold upto
  rw [List.getElem?_map, List.getElem?_map]
  by_cases h : i < O.length
  · rw [List.getElem?_eq_getElem h, List.getElem?_range h]
    show some (O[i].num) = some ((i : Nat) : Int)
    rw [ix i _ (List.getElem?_eq_getElem h)]
  · rw [List.getElem?_eq_none_iff.mpr (by omega), List.getElem?_eq_none_iff.mpr (by rw [List.length_range]; omega)]
    rfl
theorem tail_cut (o : Ob) : cutV ((rowOf o).map V.int) (some 1) none = o.sl.map V.int := by
  unfold cutV
  rw [List.length_map]
  have h1 : HT.sIx (rowOf o).length 0 (some 1) = 1 := by
    have := HT.sIx_nat (rowOf o).length 0 1
    rw [show ((1 : Nat) : Int) = 1 from rfl] at this
    rw [this]
    show min 1 (o.sl.length + 1) = 1
    omega
  have h2 : HT.sIx (rowOf o).length (rowOf o).length none = o.sl.length + 1 := rfl
  rw [h1, h2]
  show ((o.sl.map V.int).take (o.sl.length + 1 - 1)) = _
  rw [List.take_of_length_le (by rw [List.length_map]; omega)]
def sp_kept (C CS PT : Addr) : Sp := fun vs H Q _ => ∃ sp ra wa X O A rs hs R, vs = [.ref sp, .ref ra, .ref wa] ∧ Spc C CS PT H sp X O rs hs ∧ O.map rowOf = R ∧ Idx O ∧ LR H ra wa A R (rs ++ hs) ∧ ∀ H', Fr [] H H' → Q (.bl true) H'
theorem ok__law_kept (W : WT P K mg base) : FnOk P w K mg base CX0 3 W.f__law_kept W.fd__law_kept ["_law_space_here", "_law_rows_here", "_law_words"] (sp_kept W.c_Store W.c_Space W.PT_Store_close_up) := by
  refine W.F__law_kept.ok sc__law_kept (fun vs H Q E h => by obtain ⟨sp, ra, wa, X, O, A, rs, hs, R, rfl, S, hO, ix, L, k⟩ := h; rfl) (fun cdv A outer s H vs Q E hr h => ?_)
  obtain ⟨sp, ra, wa, X, O, A, rs, hs, R, rfl, S, hO, ix, L, k⟩ := h
  have hu1 := hu_of hr
  have hu64 := hu64_of hr
  refine ⟨_, (pss_cons (ps_for PassesOwn.never rfl (pi_range1 (by rfl) W.n_range (pa_cons (pe_callB call_lenU (by rfl) W.n_len bb_len (pa_cons (pv 1) pa_nil)) pa_nil)) (pg_name (i := 3) sc__law_kept.nd rfl (by first | exact Or.inl rfl | exact Or.inr rfl)) (pss_one (ps_if (PW.pt (pw_or (pt_cmpR (op_neU hu64) (pe_meth (pe_fld (pv 0) rfl) W.C_Store W.m_Store_kind (ok_Store_kind W) (hr.mono (by decide)) W.b_Store_kind .nil pass0 (pa_cons (pv 3) pa_nil)) (pe_ix (ix_U hu1) (pe_ix (ix_U hu1) (pv 1) (pv 3) (fun _ _ => rfl)) pe_int (fun _ _ => rfl)) (by first | exact nomark _ | rfl)) (pw_or1 (pt_not (pt_truth (pe_call (ok__law_same W) (hr.mono (by decide)) rfl W.g__law_same W.F__law_same.kp W.b__law_same .nil pass0 (pa_cons (pe_meth (pe_fld (pv 0) rfl) W.C_Store W.m_Store_slots (ok_Store_slots W) (hr.mono (by decide)) W.b_Store_slots .nil pass0 (pa_cons (pv 3) pa_nil)) (pa_cons (pe_slice sl_U (pe_ix (ix_U hu1) (pv 1) (pv 3) (fun _ _ => rfl)) (po_some pe_int) po_none) pa_nil))) (by intro _; rfl)))))) (pss_one (ps_ret pe_bl)) pss_nil)))
      (pss_cons (ps_setLc (i := 4) (own := [("_law_k", 3)]) (g := gName 3) (tt := tYes) rfl sc__law_kept.nd rfl rfl (sw_true rfl rfl rfl (by decide +kernel)) (pi_range1 (by rfl) W.n_range (pa_cons (pe_callB call_lenU (by rfl) W.n_len bb_len (pa_cons (pv 1) pa_nil)) pa_nil)) (blkOk_by (N := N__law_kept) (sc := defScope s__law_kept) (by first | decide +kernel | rfl)) (fun _ _ _ _ _ => (pg_name (i := 3) sc__law_kept.nd rfl (by first | exact Or.inl rfl | exact Or.inr rfl))) (fun _ _ _ _ _ => pts_nil) (fun _ _ _ _ _ => (pv 3)))
      (pss_one (ps_ret (pe_and (pe_call (ok__law_same W) (hr.mono (by decide)) rfl W.g__law_same W.F__law_same.kp W.b__law_same .nil pass0 (pa_cons (pe_meth0 (pe_fld (pv 0) rfl) W.C_Store W.m_Store_numbers (ok_Store_numbers W) (hr.mono (by decide)) W.b_Store_numbers .nil pass0 ) (pa_cons (pv 4) pa_nil))) (pe_one (pe_call (ok__law_same W) (hr.mono (by decide)) rfl W.g__law_same W.F__law_same.kp W.b__law_same .nil pass0 (pa_cons (pe_meth0 (pv 0) W.C_Space W.m_Space_all_roots (ok_Space_all_roots W) (hr.mono (by decide)) W.b_Space_all_roots .nil pass0 ) (pa_cons (pe_op op_addU (pe_lst (pa_cons pe_int pa_nil)) (pv 2)) pa_nil))))))))), ?_⟩
  refine z_start (σ := [some _, some _, some _, none, none]) rfl ?_
  one_sign
  obtain ⟨dxs, st, dx, wl, pl, pr, rt, hd, al, co, least, kvs, rfl, ss⟩ := S
  have hRl : R.length = O.length := by rw [← hO, List.length_map]
  have hAl := L.rows.len
  have hR59 := L.lR
  have hra := L.ra
  one_sign
  rw [List.length_map, hAl]
  refine z_rng1 R.length rfl (by omega) ?_
  refine for_range (lo := 0) (n := R.length) (fun i σ H' => (∃ v3, σ = [some (.ref sp), some (.ref ra), some (.ref wa), v3, none]) ∧ Fr [] H H') ⟨⟨_, rfl⟩, Fr.rfl'⟩ (fun i σ H1 hi hI => ?_) (fun σ H1 hI => ?_)
  · obtain ⟨⟨v3, rfl⟩, f1⟩ := hI
    obtain ⟨a, ha⟩ : ∃ a, A[i]? = some a := ⟨_, List.getElem?_eq_getElem (by omega)⟩
    obtain ⟨o, ho⟩ : ∃ o, O[i]? = some o := ⟨_, List.getElem?_eq_getElem (by omega)⟩
    have ss1 := ss.keep f1
    have L1 := L.keep f1
    have hra1 := L1.ra
    have hst1 := ss1.T.st
    have hsp1 := ss1.S.sp
    have a1 := L1.rows.it i a (rowOf o) ha (by rw [← hO, List.getElem?_map, ho]; rfl)
    have hno := ix i o ho
    have hlo := ss.lv o (List.mem_of_getElem? ho)
    have so := ss.sz o (List.mem_of_getElem? ho)
    one_sign
    refine ⟨st, dx, wl, pl, _, _, least, _, kvs, o.num, off O i, o.kind, by rw [hno, Int.zero_add]; rfl, ss1.T, ss.G.at ho hlo, flat_kind ho, ?_⟩
    one_sign
    refine z_ixL hra1 (by rw [Int.zero_add]; exact atI_nat (ref_at ha)) ?_
    one_sign
    refine z_ixL a1 (atI_nat (j := 0) rfl) ?_
    one_sign
    rw [decide_eq_true rfl]
    one_sign
    refine ⟨st, dx, wl, pl, _, _, least, _, kvs, o.num, off O i, o.sl.length, by rw [hno, Int.zero_add]; rfl, ss1.T, ss.G.at ho hlo, flat_size ho, by have := off_lt ho; omega, fun q hq => ?_⟩
    rw [flat_slots ho]
    have f2 : Fr [] H1 (upd H1 q (.lst (o.sl.map V.int))) := Fr.new hq
    have q2 : upd H1 q (.lst (o.sl.map V.int)) q = some (.lst (o.sl.map V.int)) := upd_same
    generalize upd H1 q (.lst (o.sl.map V.int)) = H2 at f2 q2
    one_sign
    refine z_ixL (f2.g0 hra1) (by rw [Int.zero_add]; exact atI_nat (ref_at ha)) ?_
    one_sign
    refine z_slL (f2.g0 a1) fun q3 H3 hq3 f3 e3 => ?_
    rw [tail_cut] at e3
    one_sign
    refine ⟨q, q3, o.sl, rfl, f3.g0 q2, e3, by omega, ?_⟩
    one_sign
    exact ⟨⟨_, rfl⟩, (f1.trans f2).trans f3⟩
  · obtain ⟨⟨v3, rfl⟩, f1⟩ := hI
    have ss1 := ss.keep f1
    have L1 := L.keep f1
    have hra1 := L1.ra
    one_sign
    rw [List.length_map, hAl]
    refine z_rng1 R.length rfl (by omega) ?_
    refine z_lcR (fun i xs H' => xs = (upto i).map V.int) (fun _ _ _ _ => rfl) ?_ ?_
    · intro L2 i xs H3 hL hi hl hxs hx f3
      have hxs : xs = (upto i).map V.int := hxs
      subst hxs
      leaf_len
      exact z_lcY hL hx f3 hl (by rw [sizeLine_eq]; omega) fun H5 _ _ _ => by
        show _ = _
        unfold upto
        rw [List.range_succ, List.map_append, List.map_append, Int.zero_add]
        rfl
    intro L2 xs H2 hL hxs hl hx f2
    have hxs : xs = (upto R.length).map V.int := hxs
    subst hxs
    have ss2 := ss1.keep f2
    have hst2 := ss2.T.st
    have hsp2 := ss2.S.sp
    one_sign
    obtain ⟨ms, m1, m2⟩ := ss2.numsP
    refine ⟨st, dx, wl, pl, _, _, least, _, kvs, ms, rfl, ss2.T, m1, fun ns q pm ps hq => ?_⟩
    have f3 : Fr [] H2 (upd H2 q (.lst (ns.map V.int))) := Fr.new hq
    have q3 : upd H2 q (.lst (ns.map V.int)) q = some (.lst (ns.map V.int)) := upd_same
    generalize upd H2 q (.lst (ns.map V.int)) = H3 at f3 q3
    have en : ns = upto R.length := sorted_eq (by rw [hRl, ← nums_upto ix]; exact pm.trans m2) ps (upto_sorted _)
    subst en
    one_sign
    refine ⟨q, L2, upto R.length, rfl, q3, f3.g0 hx, by unfold upto; rw [List.length_map, List.length_range]; omega, ?_⟩
    have f03 := (f1.trans f2).trans f3
    have ss3 := ss.keep f03
    have L3 := L.keep f03
    have hsp3 := ss3.S.sp
    have hwa3 := L3.wa
    one_sign
    have rl := ss.rl
    have hl4 := ss.hl
    refine ⟨sp, dxs, st, pr, rt, hd, al, co, rs, hs, rfl, ss3.S, by omega, by omega, fun l H4 hl4' hl0 f4 => ?_⟩
    one_sign
    refine z_newL (by show 1 ≤ sizeLine; decide) fun q7 H5 hq7 f5 e5 => ?_
    one_sign
    refine z_addL e5 (f5.g0 (f4.g0 hwa3)) (by rw [List.length_map, List.length_append, sizeLine_eq]; show 1 + (rs.length + hs.length) ≤ _; omega) fun q8 H6 hq8 f6 e6 => ?_
    one_sign
    refine ⟨l, q8, 0 :: (rs ++ hs), rfl, f6.g0 (f5.g0 hl4'), e6, by rw [List.length_cons, List.length_append]; omega, ?_⟩
    exact k H6 (((f03.trans f4).trans f5).trans f6)
end

end LX
namespace LX
open PySem PySem.Spec PyProof.Rows L2 NdefX
/-! ### comparing two worlds, plainly -/
abbrev QIt := List Int × Int × Int
abbrev CFd := Int × Int × List Int
inductive Vd where
  | held : Vd
  | word : List Int → Vd
  | size : List Int → Vd
  | same : List Int → List Int → Vd
  | alike : List (Int × Int) → Vd
def lookN (F : List CFd) (n : Int) : Option CFd := F.find? fun f => decide (f.1 = n)
def lookM (F : List CFd) (m : Int) : Option CFd := F.find? fun f => decide (f.2.1 = m)
section
variable (R1 R2 : List (List Int))
def kids (p : List Int) (n m : Int) : List QIt := (rowN R1 n).mapIdx fun k w => (p ++ [(k : Int)], w, (rowN R2 m).getD k 0)
def clashQ (F : List CFd) (n m : Int) (p : List Int) : Option Vd :=
  match (lookN F n).bind fun f => if f.2.1 = m then none else some (Vd.same f.2.2 p) with
  | some v => some v
  | none => match (lookM F m).bind fun f => if f.1 = n then none else some (Vd.same f.2.2 p) with
    | some v => some v
    | none => if (rowN R1 n).length = (rowN R2 m).length then none else some (.size p)
def stepQ (F : List CFd) (x : QIt) : Vd ⊕ (List CFd × List QIt) :=
  match objN R1 x.2.1, objN R2 x.2.2 with
  | some n, some m => match clashQ R1 R2 F n m x.1 with
    | some v => .inl v
    | none => if (lookN F n).isSome = true then .inr (F, []) else .inr (F ++ [(n, m, x.1)], kids R1 R2 x.1 n m)
  | none, none => if x.2.1 = x.2.2 then .inr (F, []) else .inl (.word x.1)
  | none, some _ => .inl (.word x.1)
  | some _, none => .inl (.word x.1)
def prs (F : List CFd) : List (Int × Int) := F.map fun f => (f.1, f.2.1)
def qrun : Nat → List CFd → List QIt → Vd
  | 0, F, _ => .alike (prs F)
  | _ + 1, F, [] => .alike (prs F)
  | k + 1, F, x :: W => match stepQ R1 R2 F x with
    | .inl v => v
    | .inr (F', more) => qrun k F' (W ++ more)
/-- what is known of the pairs met -/
structure CInv (r1 r2 : List Int) (F : List CFd) : Prop where
  n1 : (F.map (·.1)).Nodup
  n2 : (F.map (·.2.1)).Nodup
  ok : ∀ f ∈ F, 0 ≤ f.1 ∧ f.1 < R1.length ∧ 0 ≤ f.2.1 ∧ f.2.1 < R2.length ∧ (rowN R1 f.1).length = (rowN R2 f.2.1).length
  wk : ∀ f ∈ F, ∃ w1 w2, walkW R1 r1 f.2.2 = some w1 ∧ walkW R2 r2 f.2.2 = some w2 ∧ objN R1 w1 = some f.1 ∧ objN R2 w2 = some f.2.1
def QOk (r1 r2 : List Int) (W : List QIt) : Prop := ∀ x ∈ W, walkW R1 r1 x.1 = some x.2.1 ∧ walkW R2 r2 x.1 = some x.2.2
end
theorem find_pos {α : Type} {p : α → Bool} {l : List α} {x : α} (h : l.find? p = some x) : x ∈ l ∧ p x = true := ⟨List.mem_of_find?_eq_some h, List.find?_some h⟩
theorem lookN_some {F : List CFd} {n : Int} {f : CFd} (h : lookN F n = some f) : f ∈ F ∧ f.1 = n := ⟨(find_pos h).1, of_decide_eq_true (find_pos h).2⟩
theorem lookM_some {F : List CFd} {n : Int} {f : CFd} (h : lookM F n = some f) : f ∈ F ∧ f.2.1 = n := ⟨(find_pos h).1, of_decide_eq_true (find_pos h).2⟩
theorem lookN_none {F : List CFd} {n : Int} (h : lookN F n = none) : n ∉ F.map (·.1) := fun hm => by
  obtain ⟨f, hf, e⟩ := List.mem_map.mp hm
  have := List.find?_eq_none.mp h f hf
  exact this (decide_eq_true e)
theorem lookM_none {F : List CFd} {n : Int} (h : lookM F n = none) : n ∉ F.map (·.2.1) := fun hm => by
  obtain ⟨f, hf, e⟩ := List.mem_map.mp hm
  have := List.find?_eq_none.mp h f hf
  exact this (decide_eq_true e)
section
variable {R1 R2 : List (List Int)} {r1 r2 : List Int}
theorem row_of {R : List (List Int)} {n : Int} (h0 : 0 ≤ n) (h1 : n < R.length) : R[n.toNat]? = some (rowN R n) := by
  unfold rowN
  rw [List.getD_eq_getElem?_getD, List.getElem?_eq_getElem (by omega)]
  rfl
theorem nextRow_of {R : List (List Int)} {w n : Int} (h : objN R w = some n) : nextRow R w = some (rowN R n) := by
  obtain ⟨h1, rfl, h3, h4⟩ := objN_ok h
  unfold nextRow
  rw [if_pos ⟨h1, by omega⟩]
  exact row_of h3 h4
theorem nextRow_none {R : List (List Int)} {w : Int} (h : objN R w = none) : nextRow R w = none := by
  unfold objN at h
  unfold nextRow
  split
  · rename_i hc
    refine List.getElem?_eq_none_iff.mpr ?_
    refine Classical.byContradiction fun z => ?_
    rw [if_pos ⟨hc.1, by omega, by omega⟩] at h
    cases h
  · rfl
theorem walkS_of {R : List (List Int)} {r : List Int} {p : List Int} {w : Int} (h : walkW R r p = some w) : walkS R r p = some (some w) := by
  unfold walkW at h
  cases e : walkS R r p with
  | none => rw [e] at h; cases h
  | some s => cases s with
    | none => rw [e] at h; cases h
    | some v => rw [e] at h; cases h; rfl
theorem walkW_snoc {R : List (List Int)} {r : List Int} {p : List Int} {w n : Int} {k : Nat} {v : Int} (h : walkW R r p = some w) (hn : objN R w = some n) (hv : (rowN R n)[k]? = some v) : walkW R r (p ++ [(k : Int)]) = some v := by
  have e : walkS R r (p ++ [(k : Int)]) = wst R r (walkS R r p) k := by unfold walkS; rw [List.foldl_append]; rfl
  unfold walkW
  rw [e, walkS_of h]
  show ((((nextRow R w).bind fun row => stepW row k).map some).bind id) = _
  rw [nextRow_of hn]
  show (((stepW (rowN R n) k).map some).bind id) = _
  unfold stepW
  rw [if_pos (by omega), Int.toNat_natCast, hv]
  rfl
theorem walkW_one {R : List (List Int)} {r : List Int} {k : Nat} {v : Int} (hv : r[k]? = some v) : walkW R r [(k : Int)] = some v := by
  show ((((stepW r k).map some : Option (Option Int))).bind id) = _
  unfold stepW
  rw [if_pos (by omega), Int.toNat_natCast, hv]
  rfl
theorem kids_ok {p : List Int} {w1 w2 n m : Int} (h1 : walkW R1 r1 p = some w1) (h2 : walkW R2 r2 p = some w2) (hn : objN R1 w1 = some n) (hm : objN R2 w2 = some m) (hl : (rowN R1 n).length = (rowN R2 m).length) : QOk R1 R2 r1 r2 (kids R1 R2 p n m) := by
  intro x hx
  obtain ⟨k, hk⟩ := List.getElem?_of_mem hx
  unfold kids at hk
  rw [List.getElem?_mapIdx] at hk
  obtain ⟨v, hv, rfl⟩ := Option.map_eq_some_iff.mp hk
  have hkl := (List.getElem?_eq_some_iff.mp hv).1
  refine ⟨walkW_snoc h1 hn hv, walkW_snoc h2 hm ?_⟩
  rw [List.getD_eq_getElem?_getD, List.getElem?_eq_getElem (by omega)]
  rfl
/-- the verdicts that hold -/
def HoldP (R1 R2 : List (List Int)) (r1 r2 : List Int) : Vd → Prop
  | .held => r1.length ≠ r2.length
  | .word p => ∃ w1 w2, walkW R1 r1 p = some w1 ∧ walkW R2 r2 p = some w2 ∧ (objN R1 w1 = none ∨ objN R2 w2 = none) ∧ ((objN R1 w1).isSome = true ∨ (objN R2 w2).isSome = true ∨ w1 ≠ w2)
  | .size p => ∃ w1 w2 n m, walkW R1 r1 p = some w1 ∧ walkW R2 r2 p = some w2 ∧ objN R1 w1 = some n ∧ objN R2 w2 = some m ∧ (rowN R1 n).length ≠ (rowN R2 m).length
  | .same p q => ∃ w1 w2 n m w1' w2' n' m', walkW R1 r1 p = some w1 ∧ walkW R2 r2 p = some w2 ∧ objN R1 w1 = some n ∧ objN R2 w2 = some m ∧ walkW R1 r1 q = some w1' ∧ walkW R2 r2 q = some w2' ∧ objN R1 w1' = some n' ∧ objN R2 w2' = some m' ∧ ¬ (n = n' ↔ m = m')
  | .alike _ => False
theorem clash_none {F : List CFd} {n m : Int} {p : List Int} (h : clashQ R1 R2 F n m p = none) : (∀ f, lookN F n = some f → f.2.1 = m) ∧ (∀ f, lookM F m = some f → f.1 = n) ∧ (rowN R1 n).length = (rowN R2 m).length := by
  unfold clashQ at h
  have a1 : ∀ f, lookN F n = some f → f.2.1 = m := fun f hf => by
    refine Classical.byContradiction fun z => ?_
    rw [hf] at h
    simp only [Option.bind_some, if_neg z] at h
    cases h
  have e1 : ((lookN F n).bind fun f => if f.2.1 = m then none else some (Vd.same f.2.2 p)) = none := by
    cases e : lookN F n with
    | none => rfl
    | some f => simp only [Option.bind_some, if_pos (a1 f e)]
  rw [e1] at h
  simp only at h
  have a2 : ∀ f, lookM F m = some f → f.1 = n := fun f hf => by
    refine Classical.byContradiction fun z => ?_
    rw [hf] at h
    simp only [Option.bind_some, if_neg z] at h
    cases h
  have e2 : ((lookM F m).bind fun f => if f.1 = n then none else some (Vd.same f.2.2 p)) = none := by
    cases e : lookM F m with
    | none => rfl
    | some f => simp only [Option.bind_some, if_pos (a2 f e)]
  rw [e2] at h
  simp only at h
  refine ⟨a1, a2, ?_⟩
  refine Classical.byContradiction fun z => ?_
  rw [if_neg z] at h
  cases h
theorem clash_some {F : List CFd} {n m : Int} {p : List Int} {v : Vd} (h : clashQ R1 R2 F n m p = some v) :
    (∃ f, lookN F n = some f ∧ f.2.1 ≠ m ∧ v = .same f.2.2 p) ∨ ((∀ f, lookN F n = some f → f.2.1 = m) ∧ ∃ f, lookM F m = some f ∧ f.1 ≠ n ∧ v = .same f.2.2 p) ∨
    ((∀ f, lookN F n = some f → f.2.1 = m) ∧ (∀ f, lookM F m = some f → f.1 = n) ∧ (rowN R1 n).length ≠ (rowN R2 m).length ∧ v = .size p) := by
  unfold clashQ at h
  by_cases c1 : ∃ f, lookN F n = some f ∧ f.2.1 ≠ m
  · obtain ⟨f, hf, hm⟩ := c1
    rw [hf] at h
    simp only [Option.bind_some, if_neg hm] at h
    cases h
    exact Or.inl ⟨f, hf, hm, rfl⟩
  have a1 : ∀ f, lookN F n = some f → f.2.1 = m := fun f hf => Classical.byContradiction fun z => c1 ⟨f, hf, z⟩
  have e1 : ((lookN F n).bind fun f => if f.2.1 = m then none else some (Vd.same f.2.2 p)) = none := by
    cases e : lookN F n with
    | none => rfl
    | some f => simp only [Option.bind_some, if_pos (a1 f e)]
  rw [e1] at h
  simp only at h
  by_cases c2 : ∃ f, lookM F m = some f ∧ f.1 ≠ n
  · obtain ⟨f, hf, hm⟩ := c2
    rw [hf] at h
    simp only [Option.bind_some, if_neg hm] at h
    cases h
    exact Or.inr (Or.inl ⟨a1, f, hf, hm, rfl⟩)
  have a2 : ∀ f, lookM F m = some f → f.1 = n := fun f hf => Classical.byContradiction fun z => c2 ⟨f, hf, z⟩
  have e2 : ((lookM F m).bind fun f => if f.1 = n then none else some (Vd.same f.2.2 p)) = none := by
    cases e : lookM F m with
    | none => rfl
    | some f => simp only [Option.bind_some, if_pos (a2 f e)]
  rw [e2] at h
  simp only at h
  by_cases c3 : (rowN R1 n).length = (rowN R2 m).length
  · rw [if_pos c3] at h; cases h
  · rw [if_neg c3] at h; cases h
    exact Or.inr (Or.inr ⟨a1, a2, c3, rfl⟩)
/-- a difference that a step tells holds -/
theorem step_diff {F : List CFd} {x : QIt} {v : Vd} (I : CInv R1 R2 r1 r2 F) (q1 : walkW R1 r1 x.1 = some x.2.1) (q2 : walkW R2 r2 x.1 = some x.2.2) (h : stepQ R1 R2 F x = .inl v) : HoldP R1 R2 r1 r2 v := by
  unfold stepQ at h
  cases e1 : objN R1 x.2.1 with
  | none =>
    rw [e1] at h
    cases e2 : objN R2 x.2.2 with
    | none =>
      rw [e2] at h
      simp only at h
      split at h
      · cases h
      · rename_i hne
        cases h
        exact ⟨_, _, q1, q2, Or.inl e1, Or.inr (Or.inr hne)⟩
    | some m =>
      rw [e2] at h
      cases h
      exact ⟨_, _, q1, q2, Or.inl e1, Or.inr (Or.inl (by rw [e2]; rfl))⟩
  | some n =>
    rw [e1] at h
    cases e2 : objN R2 x.2.2 with
    | none =>
      rw [e2] at h
      cases h
      exact ⟨_, _, q1, q2, Or.inr e2, Or.inl (by rw [e1]; rfl)⟩
    | some m =>
      rw [e2] at h
      simp only at h
      cases ec : clashQ R1 R2 F n m x.1 with
      | none =>
        rw [ec] at h
        simp only at h
        split at h <;> cases h
      | some v' =>
        rw [ec] at h
        cases h
        rcases clash_some ec with ⟨f, hf, hm, rfl⟩ | ⟨_, f, hf, hn, rfl⟩ | ⟨_, _, hl, rfl⟩
        · obtain ⟨hfm, hf1⟩ := lookN_some hf
          obtain ⟨w1, w2, z1, z2, z3, z4⟩ := I.wk f hfm
          exact ⟨w1, w2, f.1, f.2.1, _, _, n, m, z1, z2, z3, z4, q1, q2, e1, e2, fun z => hm (z.mp hf1)⟩
        · obtain ⟨hfm, hf1⟩ := lookM_some hf
          obtain ⟨w1, w2, z1, z2, z3, z4⟩ := I.wk f hfm
          exact ⟨w1, w2, f.1, f.2.1, _, _, n, m, z1, z2, z3, z4, q1, q2, e1, e2, fun z => hn (z.mpr hf1)⟩
        · exact ⟨_, _, n, m, q1, q2, e1, e2, hl⟩
end

end LX
namespace LX
open PySem PySem.Spec PyProof.Rows L2 NdefX
theorem inj_of_nodup {α β : Type} {l : List α} {f : α → β} (h : (l.map f).Nodup) {a b : α} (ha : a ∈ l) (hb : b ∈ l) (e : f a = f b) : a = b := by
  obtain ⟨i, hi⟩ := List.getElem?_of_mem ha
  obtain ⟨j, hj⟩ := List.getElem?_of_mem hb
  have : i = j := (List.getElem?_inj (l := l.map f) (by rw [List.length_map]; exact (List.getElem?_eq_some_iff.mp hi).1) h).mp (by rw [List.getElem?_map, List.getElem?_map, hi, hj]; show some (f a) = some (f b); rw [e])
  subst this
  rw [hi] at hj
  exact Option.some.inj hj
section
variable (R1 R2 : List (List Int)) (r1 r2 : List Int)
def fitW (ps : List (Int × Int)) (w v : Int) : Prop := (objN R1 w = none ∧ objN R2 v = none ∧ w = v) ∨ ∃ n m, objN R1 w = some n ∧ objN R2 v = some m ∧ (n, m) ∈ ps
def fitRows (ps : List (Int × Int)) (a b : List Int) : Prop := a.length = b.length ∧ ∀ (i : Nat) (w v : Int), a[i]? = some w → b[i]? = some v → fitW R1 R2 ps w v
structure PairsP (ps : List (Int × Int)) : Prop where
  n1 : (ps.map (·.1)).Nodup
  n2 : (ps.map (·.2)).Nodup
  ok : ∀ p ∈ ps, 0 ≤ p.1 ∧ p.1 < R1.length ∧ 0 ≤ p.2 ∧ p.2 < R2.length
  rt : fitRows R1 R2 ps r1 r2
  rw' : ∀ p ∈ ps, fitRows R1 R2 ps (rowN R1 p.1) (rowN R2 p.2)
def Hold : Vd → Prop
  | .alike ps => PairsP R1 R2 r1 r2 ps
  | v => HoldP R1 R2 r1 r2 v
/-- each word of two rows is fit, or waits -/
def wtg (F : List CFd) (W : List QIt) (a b : List Int) : Prop := ∀ (i : Nat) (w v : Int), a[i]? = some w → b[i]? = some v → fitW R1 R2 (prs F) w v ∨ ∃ x ∈ W, x.2.1 = w ∧ x.2.2 = v
def Cls (F : List CFd) (W : List QIt) : Prop := wtg R1 R2 F W r1 r2 ∧ ∀ f ∈ F, wtg R1 R2 F W (rowN R1 f.1) (rowN R2 f.2.1)
end
section
variable {R1 R2 : List (List Int)} {r1 r2 : List Int}
theorem fitW.mono {ps qs : List (Int × Int)} (h : ∀ p ∈ ps, p ∈ qs) {w v : Int} (f : fitW R1 R2 ps w v) : fitW R1 R2 qs w v := f.imp id fun ⟨n, m, h1, h2, h3⟩ => ⟨n, m, h1, h2, h _ h3⟩
theorem prs_mem {F : List CFd} {f : CFd} (h : f ∈ F) : (f.1, f.2.1) ∈ prs F := List.mem_map_of_mem (f := fun f : CFd => (f.1, f.2.1)) h
/-- a step that goes on -/
theorem step_go {F F' : List CFd} {x : QIt} {more W : List QIt} (I : CInv R1 R2 r1 r2 F) (q1 : walkW R1 r1 x.1 = some x.2.1) (q2 : walkW R2 r2 x.1 = some x.2.2) (h : stepQ R1 R2 F x = .inr (F', more)) (C : Cls R1 R2 r1 r2 F (x :: W)) (hb : ∀ r ∈ R1, r.length ≤ 26) :
    CInv R1 R2 r1 r2 F' ∧ QOk R1 R2 r1 r2 more ∧ Cls R1 R2 r1 r2 F' (W ++ more) ∧ ((F' = F ∧ more = []) ∨ (F'.length = F.length + 1 ∧ more.length ≤ 26)) := by
  have stay : fitW R1 R2 (prs F) x.2.1 x.2.2 → Cls R1 R2 r1 r2 F (W ++ []) := fun hf => by
    rw [List.append_nil]
    have one : ∀ a b, wtg R1 R2 F (x :: W) a b → wtg R1 R2 F W a b := fun a b hw i w v h1 h2 => by
      rcases hw i w v h1 h2 with z | ⟨y, hy, e1, e2⟩
      · exact Or.inl z
      · rcases List.mem_cons.mp hy with rfl | hy
        · rw [← e1, ← e2]; exact Or.inl hf
        · exact Or.inr ⟨y, hy, e1, e2⟩
    exact ⟨one _ _ C.1, fun f hf => one _ _ (C.2 f hf)⟩
  unfold stepQ at h
  cases e1 : objN R1 x.2.1 with
  | none =>
    rw [e1] at h
    cases e2 : objN R2 x.2.2 with
    | none =>
      rw [e2] at h
      simp only at h
      split at h
      · rename_i he
        cases h
        exact ⟨I, (fun y hy => by cases hy), stay (Or.inl ⟨e1, e2, he⟩), Or.inl ⟨rfl, rfl⟩⟩
      · cases h
    | some m => rw [e2] at h; cases h
  | some n =>
    rw [e1] at h
    cases e2 : objN R2 x.2.2 with
    | none => rw [e2] at h; cases h
    | some m =>
      rw [e2] at h
      simp only at h
      cases ec : clashQ R1 R2 F n m x.1 with
      | some v' => rw [ec] at h; cases h
      | none =>
        rw [ec] at h
        simp only at h
        obtain ⟨c1, c2, c3⟩ := clash_none ec
        by_cases hs : (lookN F n).isSome = true
        · rw [if_pos hs] at h
          cases h
          obtain ⟨f, hf⟩ := Option.isSome_iff_exists.mp hs
          obtain ⟨hfm, hf1⟩ := lookN_some hf
          have hf2 := c1 f hf
          have hm := prs_mem hfm
          rw [hf1, hf2] at hm
          exact ⟨I, (fun y hy => by cases hy), stay (Or.inr ⟨n, m, e1, e2, hm⟩), Or.inl ⟨rfl, rfl⟩⟩
        · rw [if_neg hs] at h
          cases h
          have hn0 : lookN F n = none := by
            cases z : lookN F n with
            | none => rfl
            | some f => rw [z] at hs; exact absurd rfl hs
          have hn := lookN_none hn0
          have hm : m ∉ F.map (·.2.1) := fun hm => by
            obtain ⟨f, hf, ef⟩ := List.mem_map.mp hm
            have hl : lookM F m ≠ none := fun z => lookM_none z hm
            cases z : lookM F m with
            | none => exact hl z
            | some f' =>
              have := c2 f' z
              exact hn (by rw [← this]; exact List.mem_map_of_mem (f := (·.1)) (lookM_some z).1)
          obtain ⟨o1, rfl, o2, o3⟩ := objN_ok e1
          obtain ⟨p1, rfl, p2, p3⟩ := objN_ok e2
          have sub : ∀ p ∈ prs F, p ∈ prs (F ++ [(x.2.1 / 2, x.2.2 / 2, x.1)]) := fun p hp => by unfold prs at *; rw [List.map_append]; exact List.mem_append_left _ hp
          have new : (x.2.1 / 2, x.2.2 / 2) ∈ prs (F ++ [(x.2.1 / 2, x.2.2 / 2, x.1)]) := by unfold prs; rw [List.map_append]; exact List.mem_append_right _ (by simp)
          refine ⟨⟨?_, ?_, fun f hf => ?_, fun f hf => ?_⟩, kids_ok q1 q2 e1 e2 c3, ⟨?_, fun f hf => ?_⟩, Or.inr ⟨by rw [List.length_append]; rfl, ?_⟩⟩
          · rw [List.map_append]; exact List.nodup_append.mpr ⟨I.n1, by simp, fun a ha b hb e => by rw [List.map_singleton, List.mem_singleton] at hb; exact hn (by rw [show x.2.1 / 2 = a from (e.trans hb).symm]; exact ha)⟩
          · rw [List.map_append]; exact List.nodup_append.mpr ⟨I.n2, by simp, fun a ha b hb e => by rw [List.map_singleton, List.mem_singleton] at hb; exact hm (by rw [show x.2.2 / 2 = a from (e.trans hb).symm]; exact ha)⟩
          · rcases List.mem_append.mp hf with hf | hf
            · exact I.ok f hf
            · rw [List.mem_singleton] at hf
              rw [hf]; exact ⟨o2, o3, p2, p3, c3⟩
          · rcases List.mem_append.mp hf with hf | hf
            · exact I.wk f hf
            · rw [List.mem_singleton] at hf
              rw [hf]; exact ⟨_, _, q1, q2, e1, e2⟩
          · intro i w v h1 h2
            rcases C.1 i w v h1 h2 with z | ⟨y, hy, z1, z2⟩
            · exact Or.inl (z.mono sub)
            · rcases List.mem_cons.mp hy with rfl | hy
              · rw [← z1, ← z2]; exact Or.inl (Or.inr ⟨_, _, e1, e2, new⟩)
              · exact Or.inr ⟨y, List.mem_append_left _ hy, z1, z2⟩
          · intro i w v h1 h2
            rcases List.mem_append.mp hf with hf | hf
            · rcases C.2 f hf i w v h1 h2 with z | ⟨y, hy, z1, z2⟩
              · exact Or.inl (z.mono sub)
              · rcases List.mem_cons.mp hy with rfl | hy
                · rw [← z1, ← z2]; exact Or.inl (Or.inr ⟨_, _, e1, e2, new⟩)
                · exact Or.inr ⟨y, List.mem_append_left _ hy, z1, z2⟩
            · rw [List.mem_singleton] at hf
              rw [hf] at h1 h2
              refine Or.inr ⟨(x.1 ++ [(i : Int)], w, v), List.mem_append_right _ (List.mem_of_getElem? (i := i) ?_), rfl, rfl⟩
              unfold kids
              rw [List.getElem?_mapIdx, h1]
              show some (x.1 ++ [(i : Int)], w, (rowN R2 (x.2.2 / 2)).getD i 0) = _
              rw [List.getD_eq_getElem?_getD, h2]
              rfl
          · unfold kids
            rw [List.length_mapIdx]
            exact hb _ (List.mem_of_getElem? (row_of o2 o3))
theorem CInv.len {F : List CFd} (I : CInv R1 R2 r1 r2 F) : F.length ≤ R1.length := by
  have h := nd_len (F.map (·.1)) ((List.range R1.length).map fun i : Nat => (i : Int)) I.n1 fun n hn => by
    obtain ⟨z, hz, e⟩ := List.mem_map.mp hn
    have := I.ok z hz
    exact List.mem_map.mpr ⟨n.toNat, List.mem_range.mpr (by omega), by omega⟩
  rw [List.length_map, List.length_map, List.length_range] at h
  exact h
def mu (R1 : List (List Int)) (F : List CFd) (W : List QIt) : Nat := (R1.length - F.length) * 27 + W.length
/-- what a run tells, holds -/
theorem run_hold (hb : ∀ r ∈ R1, r.length ≤ 26) (hl : r1.length = r2.length) : ∀ (k : Nat) (F : List CFd) (W : List QIt), CInv R1 R2 r1 r2 F → QOk R1 R2 r1 r2 W → Cls R1 R2 r1 r2 F W → mu R1 F W ≤ k →
    Hold R1 R2 r1 r2 (qrun R1 R2 k F W) ∧ ∀ k', mu R1 F W ≤ k' → qrun R1 R2 k' F W = qrun R1 R2 k F W
  | k, F, [], I, _, C, _ => by
    have e : ∀ k, qrun R1 R2 k F [] = .alike (prs F) := fun k => by cases k <;> rfl
    refine ⟨?_, fun k' _ => by rw [e, e]⟩
    rw [e]
    have fits : ∀ a b, a.length = b.length → wtg R1 R2 F [] a b → fitRows R1 R2 (prs F) a b := fun a b hl hw => ⟨hl, fun i w v h1 h2 => (hw i w v h1 h2).elim id fun ⟨y, hy, _⟩ => by cases hy⟩
    refine ⟨by unfold prs; rw [List.map_map]; exact I.n1, by unfold prs; rw [List.map_map]; exact I.n2, fun p hp => ?_, fits _ _ hl C.1, fun p hp => ?_⟩
    · obtain ⟨f, hf, rfl⟩ := List.mem_map.mp hp
      have := I.ok f hf
      exact ⟨this.1, this.2.1, this.2.2.1, this.2.2.2.1⟩
    · obtain ⟨f, hf, rfl⟩ := List.mem_map.mp hp
      exact fits _ _ (I.ok f hf).2.2.2.2 (C.2 f hf)
  | 0, F, x :: W, I, _, _, hm => by unfold mu at hm; simp only [List.length_cons] at hm; omega
  | k + 1, F, x :: W, I, Q, C, hm => by
    obtain ⟨q1, q2⟩ := Q x List.mem_cons_self
    cases e : stepQ R1 R2 F x with
    | inl v =>
      have e1 : ∀ k, qrun R1 R2 (k + 1) F (x :: W) = v := fun k => by
        show (match stepQ R1 R2 F x with | .inl v => v | .inr (F', more) => qrun R1 R2 k F' (W ++ more)) = v
        rw [e]
      refine ⟨?_, fun k' hk => ?_⟩
      · rw [e1]
        have := step_diff I q1 q2 e
        cases v <;> first | exact this | exact this.elim
      · cases k' with
        | zero => unfold mu at hk; simp only [List.length_cons] at hk; omega
        | succ k' => rw [e1, e1]
    | inr z =>
      obtain ⟨F', more⟩ := z
      have e1 : ∀ k, qrun R1 R2 (k + 1) F (x :: W) = qrun R1 R2 k F' (W ++ more) := fun k => by
        show (match stepQ R1 R2 F x with | .inl v => v | .inr (F', more) => qrun R1 R2 k F' (W ++ more)) = _
        rw [e]
      obtain ⟨I', Q', C', hlen⟩ := step_go I q1 q2 e C hb
      have hF := I.len
      have hF' := I'.len
      have hmu : mu R1 F' (W ++ more) + 1 ≤ mu R1 F (x :: W) := by
        unfold mu
        rw [List.length_append, List.length_cons]
        rcases hlen with ⟨rfl, rfl⟩ | ⟨h1, h2⟩
        · simp only [List.length_nil]; omega
        · rw [h1] at hF' ⊢; omega
      obtain ⟨a1, a2⟩ := run_hold hb hl k F' (W ++ more) I' (fun y hy => (List.mem_append.mp hy).elim (fun z => Q y (List.mem_cons_of_mem _ z)) (Q' y)) C' (by omega)
      refine ⟨by rw [e1]; exact a1, fun k' hk => ?_⟩
      cases k' with
      | zero => omega
      | succ k' => rw [e1, e1]; exact a2 k' (by omega)
def starts (r1 r2 : List Int) : List QIt := r1.mapIdx fun k w => ([(k : Int)], w, r2.getD k 0)
theorem starts_ok (hl : r1.length = r2.length) : QOk R1 R2 r1 r2 (starts r1 r2) := by
  intro x hx
  obtain ⟨k, hk⟩ := List.getElem?_of_mem hx
  unfold starts at hk
  rw [List.getElem?_mapIdx] at hk
  obtain ⟨v, hv, rfl⟩ := Option.map_eq_some_iff.mp hk
  have hkl := (List.getElem?_eq_some_iff.mp hv).1
  refine ⟨walkW_one hv, walkW_one ?_⟩
  rw [List.getD_eq_getElem?_getD, List.getElem?_eq_getElem (by omega)]
  rfl
theorem cls0 : Cls R1 R2 r1 r2 [] (starts r1 r2) := by
  refine ⟨fun i w v h1 h2 => Or.inr ⟨([(i : Int)], w, v), List.mem_of_getElem? (i := i) ?_, rfl, rfl⟩, fun f hf => by cases hf⟩
  unfold starts
  rw [List.getElem?_mapIdx, h1]
  show some ([(i : Int)], w, r2.getD i 0) = _
  rw [List.getD_eq_getElem?_getD, h2]
  rfl
theorem inv0 : CInv R1 R2 r1 r2 [] := ⟨List.nodup_nil, List.nodup_nil, by simp, by simp⟩
/-- the verdict -/
def vdt (R1 R2 : List (List Int)) (r1 r2 : List Int) : Vd := if r1.length = r2.length then qrun R1 R2 (mu R1 [] (starts r1 r2)) [] (starts r1 r2) else .held
theorem vdt_hold (hb : ∀ r ∈ R1, r.length ≤ 26) : Hold R1 R2 r1 r2 (vdt R1 R2 r1 r2) := by
  unfold vdt
  by_cases hl : r1.length = r2.length
  · rw [if_pos hl]
    exact (run_hold hb hl _ _ _ inv0 (starts_ok hl) cls0 (Nat.le_refl _)).1
  · rw [if_neg hl]; exact hl
/-! ### no verdict of alike beside one of a difference -/
theorem pair_walk {ps : List (Int × Int)} (h : PairsP R1 R2 r1 r2 ps) (p : List Int) : ∀ i, i ≤ p.length →
    (walkS R1 r1 (p.take i) = none ∧ walkS R2 r2 (p.take i) = none) ∨ (walkS R1 r1 (p.take i) = some none ∧ walkS R2 r2 (p.take i) = some none) ∨ ∃ w v, walkS R1 r1 (p.take i) = some (some w) ∧ walkS R2 r2 (p.take i) = some (some v) ∧ fitW R1 R2 ps w v
  | 0, _ => Or.inr (Or.inl ⟨rfl, rfl⟩)
  | i + 1, hi => by
    obtain ⟨k, hk⟩ : ∃ k, p[i]? = some k := ⟨_, List.getElem?_eq_getElem (by omega)⟩
    have e1 := walkS_take (R := R1) (r0 := r1) hk
    have e2 := walkS_take (R := R2) (r0 := r2) hk
    have rows : ∀ a b, fitRows R1 R2 ps a b → ((stepW a k).map some = none ∧ (stepW b k).map some = none) ∨ ∃ w v, (stepW a k).map some = some (some w) ∧ (stepW b k).map some = some (some v) ∧ fitW R1 R2 ps w v := fun a b hf => by
      unfold stepW
      by_cases h0 : 0 ≤ k
      · rw [if_pos h0, if_pos h0]
        by_cases hl : k.toNat < a.length
        · have e := List.getElem?_eq_getElem hl
          have e' := List.getElem?_eq_getElem (l := b) (i := k.toNat) (by rw [← hf.1]; exact hl)
          rw [e, e']
          exact Or.inr ⟨_, _, rfl, rfl, hf.2 _ _ _ e e'⟩
        · rw [List.getElem?_eq_none_iff.mpr (by omega), List.getElem?_eq_none_iff.mpr (by rw [← hf.1]; omega)]
          exact Or.inl ⟨rfl, rfl⟩
      · rw [if_neg h0, if_neg h0]; exact Or.inl ⟨rfl, rfl⟩
    rcases pair_walk h p i (by omega) with ⟨z1, z2⟩ | ⟨z1, z2⟩ | ⟨w, v, z1, z2, hf⟩
    · rw [z1] at e1; rw [z2] at e2
      exact Or.inl ⟨e1, e2⟩
    · rw [z1] at e1; rw [z2] at e2
      rcases rows _ _ h.rt with ⟨y1, y2⟩ | ⟨w, v, y1, y2, hf⟩
      · exact Or.inl ⟨e1.trans y1, e2.trans y2⟩
      · exact Or.inr (Or.inr ⟨w, v, e1.trans y1, e2.trans y2, hf⟩)
    · rw [z1] at e1; rw [z2] at e2
      rcases hf with ⟨o1, o2, _⟩ | ⟨n, m, o1, o2, hm⟩
      · have y1 : wst R1 r1 (some (some w)) k = none := by show ((nextRow R1 w).bind fun row => stepW row k).map some = none; rw [nextRow_none o1]; rfl
        have y2 : wst R2 r2 (some (some v)) k = none := by show ((nextRow R2 v).bind fun row => stepW row k).map some = none; rw [nextRow_none o2]; rfl
        exact Or.inl ⟨e1.trans y1, e2.trans y2⟩
      · have y1 : wst R1 r1 (some (some w)) k = (stepW (rowN R1 n) k).map some := by show ((nextRow R1 w).bind fun row => stepW row k).map some = _; rw [nextRow_of o1]; rfl
        have y2 : wst R2 r2 (some (some v)) k = (stepW (rowN R2 m) k).map some := by show ((nextRow R2 v).bind fun row => stepW row k).map some = _; rw [nextRow_of o2]; rfl
        rcases rows _ _ (h.rw' _ hm) with ⟨x1, x2⟩ | ⟨w', v', x1, x2, hf⟩
        · exact Or.inl ⟨e1.trans (y1.trans x1), e2.trans (y2.trans x2)⟩
        · exact Or.inr (Or.inr ⟨w', v', e1.trans (y1.trans x1), e2.trans (y2.trans x2), hf⟩)
theorem pair_fit {ps : List (Int × Int)} (h : PairsP R1 R2 r1 r2 ps) {p : List Int} {w v : Int} (h1 : walkW R1 r1 p = some w) (h2 : walkW R2 r2 p = some v) : fitW R1 R2 ps w v := by
  have a1 := walkS_of h1
  have a2 := walkS_of h2
  rcases pair_walk h p p.length (Nat.le_refl _) with ⟨z1, _⟩ | ⟨z1, _⟩ | ⟨w', v', z1, z2, hf⟩
  · rw [List.take_length, a1] at z1; cases z1
  · rw [List.take_length, a1] at z1; cases z1
  · rw [List.take_length, a1] at z1; rw [List.take_length, a2] at z2
    cases z1; cases z2
    exact hf
theorem fit_some {ps : List (Int × Int)} {w v n m : Int} (h : fitW R1 R2 ps w v) (h1 : objN R1 w = some n) (h2 : objN R2 v = some m) : (n, m) ∈ ps := by
  rcases h with ⟨o1, _⟩ | ⟨n', m', o1, o2, hm⟩
  · rw [o1] at h1; cases h1
  · rw [o1] at h1; rw [o2] at h2
    cases h1; cases h2
    exact hm
theorem no_both {ps : List (Int × Int)} (h : PairsP R1 R2 r1 r2 ps) {v : Vd} (hv : HoldP R1 R2 r1 r2 v) : False := by
  cases v with
  | held => exact hv h.rt.1
  | word p =>
    obtain ⟨w1, w2, z1, z2, z3, z4⟩ := hv
    rcases pair_fit h z1 z2 with ⟨o1, o2, e⟩ | ⟨n, m, o1, o2, _⟩
    · rcases z4 with z | z | z
      · rw [o1] at z; cases z
      · rw [o2] at z; cases z
      · exact z e
    · rcases z3 with z | z
      · rw [o1] at z; cases z
      · rw [o2] at z; cases z
  | size p =>
    obtain ⟨w1, w2, n, m, z1, z2, z3, z4, z5⟩ := hv
    exact z5 (h.rw' _ (fit_some (pair_fit h z1 z2) z3 z4)).1
  | same p q =>
    obtain ⟨w1, w2, n, m, w1', w2', n', m', z1, z2, z3, z4, y1, y2, y3, y4, hne⟩ := hv
    have a := fit_some (pair_fit h z1 z2) z3 z4
    have b := fit_some (pair_fit h y1 y2) y3 y4
    refine hne ⟨fun e => ?_, fun e => ?_⟩
    · subst e
      have := inj_of_nodup h.n1 a b rfl
      exact congrArg Prod.snd this
    · subst e
      have := inj_of_nodup h.n2 a b rfl
      exact congrArg Prod.fst this
  | alike ps => exact hv
end

end LX
namespace LX
open PySem PySem.Spec PyProof.Rows L2 NdefX
set_option hygiene false in
local macro_rules | `(tactic| k_memK) => `(tactic| first | exact W.na_Comparison_one | exact W.na_Comparison_other | exact W.na_Comparison_there | exact W.na_Comparison_back | exact W.na_Comparison_first | exact W.na_Store_room | exact W.na_Store_entries | exact W.na_Store_words | exact W.na_Store__places | exact W.na_Store__least | exact W.na_Space_store | exact W.na_Space_pressure | exact W.na_Space_always | exact W.na_Space_allocations | exact W.na_Space_collections | exact W.na_Space__roots | exact W.na_Space__held | exact W.na_Space__saved)
set_option hygiene false in
local macro_rules | `(tactic| k_ownIn) => `(tactic| first | exact W.C_Comparison | exact W.C_Store | exact W.C_Space)
local macro_rules | `(tactic| none_booked) => `(tactic| first | assumption | (refine Fr.g0 (by assumption) ?_; none_booked))
local macro_rules | `(tactic| one_sign) => `(tactic| repeat (first
  | refine Stp.h ?_
  | ((with_reducible refine' z_fld1 ?k0 ?k1 ?k2 ?k3 ?_); (case k0 => none_booked); (case k1 => k_ownIn); (case k2 => k_memK); (case k3 => rfl))
  | ((with_reducible refine' z_meth1 ?k0 ?k1 ?_); (case k0 => none_booked); (case k1 => rfl))
  | ((with_reducible refine' z_bmL ?k0 ?_); (case k0 => none_booked))
  | ((with_reducible refine' z_lenL ?k0 ?_); (case k0 => none_booked))
  | ((with_reducible refine' z_lenT ?k0 ?_); (case k0 => none_booked))
  | ((with_reducible refine' z_lenD ?k0 ?_); (case k0 => none_booked))
  | ((with_reducible refine' z_truL ?k0 ?_); (case k0 => none_booked))
  | ((with_reducible refine' z_truD ?k0 ?_); (case k0 => none_booked))
  | ((with_reducible refine' z_truT ?k0 ?_); (case k0 => none_booked))
  | ((with_reducible refine' z_inDIP ?k0 ?_); (case k0 => none_booked))
  | ((with_reducible refine' z_inDIN ?k0 ?_); (case k0 => none_booked))
  | ((with_reducible refine' z_inDfP ?k0 ?_); (case k0 => none_booked))
  | ((with_reducible refine' z_inDfN ?k0 ?_); (case k0 => none_booked))
  | ((with_reducible refine' z_iList1 ?k0 ?_); (case k0 => none_booked))
  | ((with_reducible refine' z_isi0 ?k0 ?k1 ?k2 ?_); (case k0 => exact (ClsV.ty _)); (case k1 => exact (TyX.base (TyOf.lst (by none_booked)))); (case k2 => first | exact kt_list_int | exact kt_list_bool | exact kt_list_str | exact kt_list_list | exact kt_list_tuple | exact kt_list_dict))
  | ((with_reducible refine' z_rI ?k0 ?_); (case k0 => first | exact (by decide : (0 : Int) < _) | exact ⟨by decide, by decide⟩ | exact ⟨by decide, by decide, by decide⟩ | (show (0 : Int) < _; omega)))
  | ((with_reducible refine' z_mulI ?k0 ?_); (case k0 => first | exact Or.inr ⟨by decide, by decide⟩ | exact Or.inl ⟨by decide, by decide⟩ | exact Or.inl ⟨by omega, by omega⟩ | exact Or.inr ⟨by omega, by omega⟩))))
local macro_rules | `(tactic| leaf_len) => `(tactic| (simp only [wipe, List.map_cons, List.map_nil, List.set_cons_zero, List.set_cons_succ]; one_sign; refine z_ok rfl ?_; one_sign))
section
variable {K : PySem.W.Frag}
/-- a space that holds the rows R, reached by the row r -/
def WV (C CS PT : Addr) (H : Hp) (sp : Addr) (R : List (List Int)) (r : List Int) : Prop := ∃ X O rs hs, Spc C CS PT H sp X O rs hs ∧ O.map rowOf = R ∧ Idx O ∧ r = 0 :: (rs ++ hs)
variable {C CS PT : Addr} {H H' : Hp} {sp : Addr} {R : List (List Int)} {r : List Int} {Q : VK} {E : XK}
theorem WV.keep (h : WV C CS PT H sp R r) (f : Fr [] H H') : WV C CS PT H' sp R r := let ⟨X, O, rs, hs, S, h1, h2, h3⟩ := h; ⟨X, O, rs, hs, S.keep f, h1, h2, h3⟩
theorem WV.bds (h : WV C CS PT H sp R r) : R.length ≤ 59 ∧ (∀ x ∈ R, x.length ≤ 26) ∧ 17 ≤ r.length ∧ r.length ≤ 25 := by
  obtain ⟨X, O, rs, hs, ⟨dxs, st, dx, wl, pl, pr, rt, hd, al, co, least, kvs, rfl, ss⟩, rfl, h2, rfl⟩ := h
  refine ⟨by rw [List.length_map]; exact ss.len, fun x hx => ?_, ?_, ?_⟩
  · obtain ⟨o, ho, rfl⟩ := List.mem_map.mp hx
    have := ss.sz o ho
    show o.sl.length + 1 ≤ 26
    omega
  · have := ss.rl; rw [List.length_cons, List.length_append]; omega
  · have := ss.rl; have := ss.hl; rw [List.length_cons, List.length_append]; omega
theorem WV.obj (h : WV C CS PT H sp R r) {x : Int} (k : Q (optV (objN R x)) H) : sp_objof CS C ([.ref sp, .int x] ++ []) H Q E := by
  obtain ⟨X, O, rs, hs, ⟨dxs, st, dx, wl, pl, pr, rt, hd, al, co, least, kvs, rfl, ss⟩, hO, h2, rfl⟩ := h
  refine ⟨sp, dxs, st, pr, rt, hd, al, co, rs, hs, dx, wl, pl, _, _, least, O, kvs, x, rfl, ss.S, ss.T, ss.G, fun he hl => ?_, fun hn => ?_⟩
  · rw [(objN_live (n := x / 2) hO h2 ss.lv).mpr ⟨he, hl, rfl⟩] at k
    exact k
  · have e : objN R x = none := by
      cases e : objN R x with
      | none => rfl
      | some n => exact absurd (let z := (objN_live hO h2 ss.lv).mp e; ⟨z.1, z.2.1⟩) hn
    rw [e] at k
    exact k
theorem WV.at (h : WV C CS PT H sp R r) {n : Int} (h0 : 0 ≤ n) (h1 : n < R.length) : ∃ X O rs hs dxs st dx wl pl pr rt hd al co least kvs, SS C CS PT H sp dxs st dx wl pl pr rt hd al co least O kvs rs hs ∧ X = [sp, st, wl, pl, rt, hd] ∧ ∃ (i : Nat) (o : Ob), O[i]? = some o ∧ o.num = n ∧ o.live = true ∧ rowN R n = rowOf o := by
  obtain ⟨X, O, rs, hs, ⟨dxs, st, dx, wl, pl, pr, rt, hd, al, co, least, kvs, rfl, ss⟩, rfl, h2, rfl⟩ := h
  rw [List.length_map] at h1
  obtain ⟨o, ho⟩ : ∃ o, O[n.toNat]? = some o := ⟨_, List.getElem?_eq_getElem (by omega)⟩
  have hn := h2 _ o ho
  refine ⟨_, O, rs, hs, dxs, st, dx, wl, pl, pr, rt, hd, al, co, least, kvs, ss, rfl, n.toNat, o, ho, by rw [hn]; omega, ss.lv o (List.mem_of_getElem? ho), ?_⟩
  rw [show n = ((n.toNat : Nat) : Int) by omega]
  exact row_at rfl ho
theorem WV.row (h : WV C CS PT H sp R r) {n : Int} (h0 : 0 ≤ n) (h1 : n < R.length) (k : ∀ q H', H q = none → H' q = some (.lst ((rowN R n).map V.int)) → Fr [] H H' → Q (.ref q) H') : sp_rowof CS C ([.ref sp, .int n] ++ []) H Q E := by
  obtain ⟨X, O, rs, hs, dxs, st, dx, wl, pl, pr, rt, hd, al, co, least, kvs, ss, rfl, i, o, ho, rfl, hl, er⟩ := h.at h0 h1
  rw [er] at k
  exact ⟨sp, dxs, st, pr, rt, hd, al, co, rs, hs, dx, wl, pl, _, _, least, O, kvs, i, o, rfl, ss.S, ss.T, ss.G, ho, hl, Nat.le_trans (ss.sz o (List.mem_of_getElem? ho)) (by decide), k⟩
theorem WV.allr (h : WV C CS PT H sp R r) (k : ∀ q H', H q = none → H' q = some (.lst (r.map V.int)) → Fr [] H H' → Q (.ref q) H') : sp_allr CS (.ref sp :: ([] ++ [])) H Q E := by
  obtain ⟨X, O, rs, hs, ⟨dxs, st, dx, wl, pl, pr, rt, hd, al, co, least, kvs, rfl, ss⟩, hO, h2, rfl⟩ := h
  exact ⟨sp, dxs, st, pr, rt, hd, al, co, rs, hs, rfl, ss.S, by have := ss.rl; omega, by have := ss.hl; omega, fun l H' h1 h2 f => k l H' h2 h1 f⟩
/-- the space as an object, its store as an object -/
theorem WV.objs (h : WV C CS PT H sp R r) : ∃ dxs st pr rt hd al co dx fs, H sp = some (.ins CS dxs (pF st pr rt hd al co)) ∧ H st = some (.ins C dx fs) ∧ fs.lookup ("size" : Str) = none ∧ fs.lookup ("exists" : Str) = none ∧
    (∀ {n : Int} {Q : VK} {E : XK}, 0 ≤ n → n < R.length → Q (.int ((rowN R n).length - 1 : Int)) H → sp_size C (.ref st :: ([.int n] ++ [])) H Q E) ∧ (∀ {n : Int} {Q : VK} {E : XK}, Q (.bl (decide (0 ≤ n ∧ n < R.length))) H → sp_exists C (.ref st :: ([.int n] ++ [])) H Q E) := by
  have h' := h
  obtain ⟨X, O, rs, hs, ⟨dxs, st, dx, wl, pl, pr, rt, hd, al, co, least, kvs, rfl, ss⟩, hO, h2, rfl⟩ := h
  refine ⟨dxs, st, pr, rt, hd, al, co, dx, _, ss.S.sp, ss.T.st, rfl, rfl, fun {n Q E} h0 h1 k => ?_, fun {n Q E} k => ?_⟩
  · rw [← hO, List.length_map] at h1
    obtain ⟨o, ho⟩ : ∃ o, O[n.toNat]? = some o := ⟨_, List.getElem?_eq_getElem (by omega)⟩
    have hn := h2 _ o ho
    have er : rowN R n = rowOf o := by rw [show n = ((n.toNat : Nat) : Int) by omega]; exact row_at hO ho
    rw [er] at k
    have en : n = o.num := by rw [hn]; omega
    subst en
    refine ⟨st, dx, wl, pl, _, _, least, flat O, kvs, o.num, off O (o.num).toNat, o.sl.length, rfl, ss.T, ss.G.at ho (ss.lv o (List.mem_of_getElem? ho)), flat_size ho, ?_⟩
    have : (((rowOf o).length : Int) - 1) = (o.sl.length : Int) := by show (((o.sl.length + 1 : Nat) : Int) - 1) = _; omega
    rw [this] at k
    exact k
  · refine ⟨st, dx, wl, pl, _, _, least, flat O, kvs, n, rfl, ss.T, ?_⟩
    have e : (valV kvs (.inl n)).isSome = decide (0 ≤ n ∧ n < R.length) := by
      rw [← hO, List.length_map]
      rw [Bool.eq_iff_iff, decide_eq_true_eq, ss.G.iff, h2.live ss.lv]
    rw [e]
    exact k
end
/-- items that wait, in the heap -/
abbrev W3 := Addr × Addr × List Int × Int × Int
def w3Q (W : List W3) : List QIt := W.map fun x => (x.2.2.1, x.2.2.2.1, x.2.2.2.2)
def w3L (W : List W3) : List V := W.map fun x => V.ref x.1
def W3I (H : Hp) (W : List W3) : Prop := ∀ x ∈ W, H x.1 = some (.tup [.ref x.2.1, .int x.2.2.2.1, .int x.2.2.2.2]) ∧ H x.2.1 = some (.tup (x.2.2.1.map V.int))
def TP (H H' : Hp) : Prop := ∀ a xs, H a = some (.tup xs) → H' a = some (.tup xs)
theorem TP.trans {H H1 H2 : Hp} (f : TP H H1) (g : TP H1 H2) : TP H H2 := fun a xs e => g a xs (f a xs e)
theorem Fr.tp {H H' : Hp} (f : Fr [] H H') : TP H H' := fun _ _ e => f.g0 e
theorem Fr.tp1 {H H' : Hp} {q : Addr} {o : HO} (f : Fr [q] H H') (h : H q = some o) (hn : ∀ xs, o ≠ .tup xs) : TP H H' := fun a xs e => f.g e (nin (ne_of e h (fun z => hn xs z.symm)))
theorem W3I.mono {H H' : Hp} {W : List W3} (h : W3I H W) (t : TP H H') : W3I H' W := fun x hx => ⟨t _ _ (h x hx).1, t _ _ (h x hx).2⟩
theorem W3I.app {H : Hp} {W W' : List W3} (h : W3I H W) (h' : W3I H W') : W3I H (W ++ W') := fun x hx => (List.mem_append.mp hx).elim (h x) (h' x)
section
variable {P : Program} {w : World} {K : PySem.W.Frag} {mg : Str → Option Value} {base : Heap}
theorem z_addT0 {H : Hp} {Q : VK} {a b : Addr} {ys : List V} (h1 : H a = some (.tup [])) (h2 : H b = some (.tup ys)) (h3 : ys.length ≤ sizeLine) (h : Q (.ref b) H) : rAddU K (.ref a) (.ref b) H Q :=
  Or.inr ⟨a, b, [], ys, rfl, rfl, SqT.of h1, SqT.of h2, by simpa using h3, fun _ => h, fun n _ => absurd rfl n, fun n _ => absurd rfl n⟩
def kidsR (p row row2 : List Int) : List QIt := row.mapIdx fun k w => (p ++ [(k : Int)], w, row2.getD k 0)
def sp_fol : Sp := fun vs H Q _ => ∃ pa ra rb, ∃ p row row2 : List Int, vs = [.ref pa, .ref ra, .ref rb] ∧ H pa = some (.tup (p.map V.int)) ∧ H ra = some (.lst (row.map V.int)) ∧ H rb = some (.lst (row2.map V.int)) ∧ row.length ≤ row2.length ∧ row.length ≤ 1000 ∧ p.length ≤ 1000 ∧
  ∀ q W H', H q = none → H' q = some (.lst (w3L W)) → W3I H' W → w3Q W = kidsR p row row2 → Fr [] H H' → Q (.ref q) H'
theorem ok_following (W : WT P K mg base) : FnOk P w K mg base CX0 1 W.f_following W.fd_following ["path", "row", "other"] sp_fol := by
  refine W.F_following.ok sc_following (fun vs H Q E h => by obtain ⟨pa, ra, rb, p, row, row2, rfl, hpa, hra, hrb, hl, hl2, hp, k⟩ := h; rfl) (fun cdv A outer s H vs Q E hr h => ?_)
  obtain ⟨pa, ra, rb, p, row, row2, rfl, hpa, hra, hrb, hl, hl2, hp, k⟩ := h
  have hu1 := hu_of hr
  have hu64 := hu64_of hr
  refine ⟨_, (pss_one (ps_ret (pe_lc (own := [("k", 3)]) (g := gName 3) (tt := tYes) rfl sc_following.nd (pi_range1 (by rfl) W.n_range (pa_cons (pe_callB call_lenU (by rfl) W.n_len bb_len (pa_cons (pv 1) pa_nil)) pa_nil)) (blkOk_by (N := N_following) (sc := defScope s_following) (by first | decide +kernel | rfl)) (fun _ _ _ _ _ => (pg_name (i := 3) sc_following.nd rfl (by first | exact Or.inl rfl | exact Or.inr rfl))) (fun _ _ _ _ _ => pts_nil) (fun _ _ _ _ _ => (pe_tup (pa_cons (pe_op (op_addUK (K := K) rfl) (pv 0) (pe_tup (pa_cons (pv 3) pa_nil))) (pa_cons (pe_ix (ix_UK (K := K) rfl (by exact hu1)) (pv 1) (pv 3) (fun _ _ => rfl)) (pa_cons (pe_ix (ix_UK (K := K) rfl (by exact hu1)) (pv 2) (pv 3) (fun _ _ => rfl)) pa_nil)))))))), ?_⟩
  refine z_start (σ := [some _, some _, some _, none]) rfl ?_
  one_sign
  rw [List.length_map]
  refine z_rng1 row.length rfl (by omega) ?_
  refine z_lcR (fun i xs H' => ∃ W : List W3, xs = w3L W ∧ W3I H' W ∧ w3Q W = (kidsR p row row2).take i) (fun _ _ _ _ => ⟨[], rfl, fun x hx => (by cases hx), rfl⟩) (fun Rr i xs H1 hRr hi hxl hP hX f1 => ?_) (fun q xs H1 hq hP hxl hX f1 => ?_)
  · obtain ⟨W, rfl, hI, hQ⟩ := hP
    obtain ⟨x, hx⟩ : ∃ x, row[i]? = some x := ⟨_, List.getElem?_eq_getElem hi⟩
    obtain ⟨y, hy⟩ : ∃ y, row2[i]? = some y := ⟨_, List.getElem?_eq_getElem (by omega)⟩
    have hk : (kidsR p row row2)[i]? = some (p ++ [(i : Int)], x, y) := by
      unfold kidsR
      rw [List.getElem?_mapIdx, hx]
      show some (p ++ [(i : Int)], x, row2.getD i 0) = _
      rw [List.getD_eq_getElem?_getD, hy]; rfl
    leaf_len
    refine z_newL (by show 1 ≤ sizeLine; decide) fun t H2 ht f2 e2 => ?_
    rw [Int.zero_add] at e2 ⊢
    have fin : ∀ (pt : Addr) H3, Fr [] H2 H3 → H3 pt = some (.tup ((p ++ [(i : Int)]).map V.int)) → tCons (tOp (rIxU K) (tVar 1) (tVar 3)) (tCons (tOp (rIxU K) (tVar 2) (tVar 3)) tNil) [some (.ref pa), some (.ref ra), some (.ref rb), some (.int (i : Int))] H3 fun xs H2 => oNew (.tup (.ref pt :: xs)) (V.ref pt :: xs).length H2 fun y H6 => LcY H Rr (fun i xs H' => ∃ W : List W3, xs = w3L W ∧ W3I H' W ∧ w3Q W = (kidsR p row row2).take i) (i + 1) y H6 := fun pt H3 f3 e3 => by
      have F3 := (f1.trans f2).trans f3
      one_sign
      refine z_ixL (F3.g0 hra) (atI_nat (int_at hx)) ?_
      one_sign
      refine z_ixL (F3.g0 hrb) (atI_nat (int_at hy)) ?_
      refine z_newL (by show 3 ≤ sizeLine; decide) fun b H4 hb f4 e4 => ?_
      have f24 := (f2.trans f3).trans f4
      refine z_lcY hRr (f24.g0 hX) (f1.trans f24) hxl (by rw [sizeLine_eq]; omega) fun H5 f5 _ _ => ?_
      have t5 : TP H4 H5 := f5.tp1 (f24.g0 hX) (by intro _ z; cases z)
      refine ⟨W ++ [(b, pt, p ++ [(i : Int)], x, y)], by unfold w3L; rw [List.map_append]; rfl, ((hI.mono f24.tp).app fun z hz => ?_).mono t5, ?_⟩
      · rw [List.mem_singleton] at hz
        rw [hz]; exact ⟨e4, f4.g0 e3⟩
      · rw [List.take_succ, hk, ← hQ]
        unfold w3Q
        rw [List.map_append]; rfl
    cases p with
    | nil =>
      refine z_addT0 (f2.g0 (f1.g0 hpa)) e2 (by show 1 ≤ sizeLine; decide) ?_
      exact fin t H2 Fr.rfl' e2
    | cons c p =>
      refine z_addT (f2.g0 (f1.g0 hpa)) e2 (by rw [List.length_map, sizeLine_eq]; show (c :: p).length + 1 ≤ _; omega) (by simp) (by simp) fun pt H3 hpt f3 e3 => ?_
      exact fin pt H3 f3 (by rw [List.map_append]; exact e3)
  · obtain ⟨W, rfl, hI, hQ⟩ := hP
    exact k q W H1 hq hX hI (by rw [hQ, List.take_of_length_le]; unfold kidsR; rw [List.length_mapIdx]; exact Nat.le_refl _) f1
end

end LX
namespace LX
open PySem PySem.Spec PyProof.Rows L2 NdefX
set_option hygiene false in
local macro_rules | `(tactic| k_memK) => `(tactic| first | exact W.na_Comparison_one | exact W.na_Comparison_other | exact W.na_Comparison_there | exact W.na_Comparison_back | exact W.na_Comparison_first | exact W.na_Store_room | exact W.na_Store_entries | exact W.na_Store_words | exact W.na_Store__places | exact W.na_Store__least | exact W.na_Space_store | exact W.na_Space_pressure | exact W.na_Space_always | exact W.na_Space_allocations | exact W.na_Space_collections | exact W.na_Space__roots | exact W.na_Space__held | exact W.na_Space__saved)
set_option hygiene false in
local macro_rules | `(tactic| k_ownIn) => `(tactic| first | exact W.C_Comparison | exact W.C_Store | exact W.C_Space)
local macro_rules | `(tactic| none_booked) => `(tactic| first | assumption | (refine Fr.g0 (by assumption) ?_; none_booked))
local macro_rules | `(tactic| one_sign) => `(tactic| repeat (first
  | refine Stp.h ?_
  | ((with_reducible refine' z_fld1 ?k0 ?k1 ?k2 ?k3 ?_); (case k0 => none_booked); (case k1 => k_ownIn); (case k2 => k_memK); (case k3 => rfl))
  | ((with_reducible refine' z_meth1 ?k0 ?k1 ?_); (case k0 => none_booked); (case k1 => rfl))
  | ((with_reducible refine' z_bmL ?k0 ?_); (case k0 => none_booked))
  | ((with_reducible refine' z_lenL ?k0 ?_); (case k0 => none_booked))
  | ((with_reducible refine' z_lenT ?k0 ?_); (case k0 => none_booked))
  | ((with_reducible refine' z_lenD ?k0 ?_); (case k0 => none_booked))
  | ((with_reducible refine' z_truL ?k0 ?_); (case k0 => none_booked))
  | ((with_reducible refine' z_truD ?k0 ?_); (case k0 => none_booked))
  | ((with_reducible refine' z_truT ?k0 ?_); (case k0 => none_booked))
  | ((with_reducible refine' z_inDIP ?k0 ?_); (case k0 => none_booked))
  | ((with_reducible refine' z_inDIN ?k0 ?_); (case k0 => none_booked))
  | ((with_reducible refine' z_inDfP ?k0 ?_); (case k0 => none_booked))
  | ((with_reducible refine' z_inDfN ?k0 ?_); (case k0 => none_booked))
  | ((with_reducible refine' z_iList1 ?k0 ?_); (case k0 => none_booked))
  | ((with_reducible refine' z_isi0 ?k0 ?k1 ?k2 ?_); (case k0 => exact (ClsV.ty _)); (case k1 => exact (TyX.base (TyOf.lst (by none_booked)))); (case k2 => first | exact kt_list_int | exact kt_list_bool | exact kt_list_str | exact kt_list_list | exact kt_list_tuple | exact kt_list_dict))
  | ((with_reducible refine' z_rI ?k0 ?_); (case k0 => first | exact (by decide : (0 : Int) < _) | exact ⟨by decide, by decide⟩ | exact ⟨by decide, by decide, by decide⟩ | (show (0 : Int) < _; omega)))
  | ((with_reducible refine' z_mulI ?k0 ?_); (case k0 => first | exact Or.inr ⟨by decide, by decide⟩ | exact Or.inl ⟨by decide, by decide⟩ | exact Or.inl ⟨by omega, by omega⟩ | exact Or.inr ⟨by omega, by omega⟩))))
local macro_rules | `(tactic| leaf_len) => `(tactic| (simp only [wipe, List.map_cons, List.map_nil, List.set_cons_zero, List.set_cons_succ]; one_sign; refine z_ok rfl ?_; one_sign))
abbrev C3 := Int × Int × Addr × List Int
def c3F (F : List C3) : List CFd := F.map fun f => (f.1, f.2.1, f.2.2.2)
def tD (F : List C3) : List (Key × V) := F.map fun f => (.inl f.1, .int f.2.1)
def bD (F : List C3) : List (Key × V) := F.map fun f => (.inl f.2.1, .int f.1)
def fD (F : List C3) : List (Key × V) := F.map fun f => (.inl f.1, .ref f.2.2.1)
def C3I (H : Hp) (F : List C3) : Prop := ∀ f ∈ F, H f.2.2.1 = some (.tup (f.2.2.2.map V.int))
def coF (o1 o2 td bd fd : Addr) : List (Str × V) := [("one", .ref o1), ("other", .ref o2), ("there", .ref td), ("back", .ref bd), ("first", .ref fd)]
structure Cmp (H : Hp) (C co dx o1 o2 td bd fd : Addr) (F : List C3) : Prop where
  co : H co = some (.ins C dx (coF o1 o2 td bd fd))
  t : H td = some (.dK (tD F))
  b : H bd = some (.dK (bD F))
  f : H fd = some (.dK (fD F))
  i : C3I H F
  tb : td ≠ bd
  tf : td ≠ fd
  bf : bd ≠ fd
theorem Cmp.keep {H H' : Hp} {C co dx o1 o2 td bd fd : Addr} {F : List C3} (h : Cmp H C co dx o1 o2 td bd fd F) (g : Fr [] H H') : Cmp H' C co dx o1 o2 td bd fd F := ⟨g.g0 h.co, g.g0 h.t, g.g0 h.b, g.g0 h.f, fun f hf => g.g0 (h.i f hf), h.tb, h.tf, h.bf⟩
theorem dec_key (x n : Int) : decide ((Sum.inl x : Key) = Sum.inl n) = decide (x = n) := decide_eq_decide.mpr ⟨Sum.inl.inj, congrArg _⟩
theorem tD_val (F : List C3) (n : Int) : valV (tD F) (.inl n) = (lookN (c3F F) n).map fun f => V.int f.2.1 := by
  unfold valV tD lookN c3F
  rw [List.find?_map, List.find?_map]
  simp only [Option.map_map, Function.comp_def, dec_key]
theorem bD_val (F : List C3) (m : Int) : valV (bD F) (.inl m) = (lookM (c3F F) m).map fun f => V.int f.1 := by
  unfold valV bD lookM c3F
  rw [List.find?_map, List.find?_map]
  simp only [Option.map_map, Function.comp_def, dec_key]
theorem fD_val {F : List C3} (nd : ((c3F F).map (·.1)).Nodup) {f : C3} (hf : f ∈ F) : valV (fD F) (.inl f.1) = some (.ref f.2.2.1) := by
  have nd' : (F.map (·.1)).Nodup := by unfold c3F at nd; rw [List.map_map] at nd; exact nd
  unfold valV fD
  rw [List.find?_map]
  simp only [Function.comp_def, dec_key]
  have : F.find? (fun x => decide (x.1 = f.1)) = some f := by
    obtain ⟨g, hg⟩ : ∃ g, F.find? (fun x => decide (x.1 = f.1)) = some g := Option.isSome_iff_exists.mp (by rw [List.find?_isSome]; exact ⟨f, hf, decide_eq_true rfl⟩)
    have h1 := List.mem_of_find?_eq_some hg
    have z := List.find?_some hg
    have h2 := of_decide_eq_true (p := g.1 = f.1) z
    rw [hg, inj_of_nodup nd' h1 hf h2]
  rw [this]
  rfl
theorem c3_mem {F : List C3} {g : CFd} (h : g ∈ c3F F) : ∃ f ∈ F, g = (f.1, f.2.1, f.2.2.2) := by
  obtain ⟨f, hf, e⟩ := List.mem_map.mp h
  exact ⟨f, hf, e.symm⟩
def sSAME : Str := T [115, 97, 109, 101]
def sSIZE : Str := T [115, 105, 122, 101]
def sWORD : Str := T [119, 111, 114, 100]
def sHELD : Str := T [104, 101, 108, 100]
def sALIKE : Str := T [97, 108, 105, 107, 101]
def PrsAt (H : Hp) (A : List Addr) (ps : List (Int × Int)) : Prop := A.length = ps.length ∧ ∀ (i : Nat) (a : Addr) (p : Int × Int), A[i]? = some a → ps[i]? = some p → H a = some (.tup [.int p.1, .int p.2])
def VdAt (H : Hp) (a : Addr) : Vd → Prop
  | .held => H a = some (.tup [.str sHELD])
  | .word p => ∃ pa, H a = some (.tup [.str sWORD, .ref pa]) ∧ H pa = some (.tup (p.map V.int))
  | .size p => ∃ pa, H a = some (.tup [.str sSIZE, .ref pa]) ∧ H pa = some (.tup (p.map V.int))
  | .same p q => ∃ pa qa, H a = some (.tup [.str sSAME, .ref pa, .ref qa]) ∧ H pa = some (.tup (p.map V.int)) ∧ H qa = some (.tup (q.map V.int))
  | .alike ps => ∃ l A, H a = some (.tup [.str sALIKE, .ref l]) ∧ H l = some (.lst (A.map V.ref)) ∧ PrsAt H A ps
section
variable {P : Program} {w : World} {K : PySem.W.Frag} {mg : Str → Option Value} {base : Heap}
def sp_cinit (C : Addr) : Sp := fun vs H Q _ => ∃ co dx o1 o2, vs = [.ref co, .ref o1, .ref o2] ∧ H co = some (.ins C dx []) ∧ ∀ H' td bd fd, Fr [co] H H' → Cmp H' C co dx o1 o2 td bd fd [] → H td = none → H bd = none → H fd = none → Q .non H'
theorem ok_Comparison___init__ (W : WT P K mg base) : FnOk P w K mg base CX0 1 W.f_Comparison___init__ W.fd_Comparison___init__ ["self", "one", "other"] (sp_cinit W.c_Comparison) := by
  refine W.F_Comparison___init__.ok sc_Comparison___init__ (fun vs H Q E h => by obtain ⟨co, dx, o1, o2, rfl, hco, k⟩ := h; rfl) (fun cdv A outer s H vs Q E hr h => ?_)
  obtain ⟨co, dx, o1, o2, rfl, hco, k⟩ := h
  have hu1 := hu_of hr
  have hu64 := hu64_of hr
  refine ⟨_, (pss_cons (ps_fld (pv 0) (pv 1) rfl)
      (pss_cons (ps_fld (pv 0) (pv 2) rfl)
      (pss_cons (ps_fld (pv 0) pe_dnewK rfl)
      (pss_cons (ps_fld (pv 0) pe_dnewK rfl)
      (pss_one (ps_fld (pv 0) pe_dnewK rfl)))))), ?_⟩
  refine z_start (σ := [some _, some _, some _]) rfl ?_
  one_sign
  refine z_flds1 hco W.C_Comparison W.na_Comparison_one (by show 0 < 1000; decide) fun H1 g1 s1 n1 => ?_
  one_sign
  refine z_flds1 s1 W.C_Comparison W.na_Comparison_other (by show 1 < 1000; decide) fun H2 g2 s2 n2 => ?_
  one_sign
  intro td H3 htd f3 t3
  one_sign
  refine z_flds1 (f3.g0 s2) W.C_Comparison W.na_Comparison_there (by show 2 < 1000; decide) fun H4 g4 s4 n4 => ?_
  have ntd : td ≠ co := fun e => by rw [e, s2] at htd; cases htd
  have t4 := g4.g t3 (nin ntd)
  one_sign
  intro bd H5 hbd f5 b5
  one_sign
  refine z_flds1 (f5.g0 s4) W.C_Comparison W.na_Comparison_back (by show 3 < 1000; decide) fun H6 g6 s6 n6 => ?_
  have nbd : bd ≠ co := fun e => by rw [e, s4] at hbd; cases hbd
  have b6 := g6.g b5 (nin nbd)
  have t6 := g6.g (f5.g0 t4) (nin ntd)
  one_sign
  intro fd H7 hfd f7 d7
  one_sign
  refine z_flds1 (f7.g0 s6) W.C_Comparison W.na_Comparison_first (by show 4 < 1000; decide) fun H8 g8 s8 n8 => ?_
  have nfd : fd ≠ co := fun e => by rw [e, s6] at hfd; cases hfd
  have sub : ∀ b, b ∈ ([] : List Addr) → b ∈ [co] := by simp
  have G2 : Fr [co] H H2 := g1.trans g2
  have G4 := (G2.trans (f3.mono sub)).trans g4
  have G6 := (G4.trans (f5.mono sub)).trans g6
  have G8 := (G6.trans (f7.mono sub)).trans g8
  exact k H8 td bd fd G8 ⟨s8, g8.g (f7.g0 t6) (nin ntd), g8.g (f7.g0 b6) (nin nbd), g8.g d7 (nin nfd), fun f hf => (by cases hf), ne_of_none t4 hbd, ne_of_none t6 hfd, ne_of_none b6 hfd⟩ (G2.noneF htd (nin ntd)) (G4.noneF hbd (nin nbd)) (G6.noneF hfd (nin nfd))
def sp_clash (C CS PT CC : Addr) : Sp := fun vs H Q _ => ∃ co dx o1 o2 td bd fd F R1 R2 r1 r2 pa, ∃ (n m : Int) (p : List Int), vs = [.ref co, .int n, .int m, .ref pa] ∧ Cmp H CC co dx o1 o2 td bd fd F ∧ WV C CS PT H o1 R1 r1 ∧ WV C CS PT H o2 R2 r2 ∧ CInv R1 R2 r1 r2 (c3F F) ∧
  (0 ≤ n ∧ n < R1.length) ∧ (0 ≤ m ∧ m < R2.length) ∧ H pa = some (.tup (p.map V.int)) ∧ (clashQ R1 R2 (c3F F) n m p = none → Q .non H) ∧ (∀ v, clashQ R1 R2 (c3F F) n m p = some v → ∀ t H', Fr [] H H' → VdAt H' t v → Q (.ref t) H')
theorem ok_Comparison_clash (W : WT P K mg base) : FnOk P w K mg base CX0 2 W.f_Comparison_clash W.fd_Comparison_clash ["self", "number", "match", "path"] (sp_clash W.c_Store W.c_Space W.PT_Store_close_up W.c_Comparison) := by
  refine W.F_Comparison_clash.ok sc_Comparison_clash (fun vs H Q E h => by obtain ⟨co, dx, o1, o2, td, bd, fd, F, R1, R2, r1, r2, pa, n, m, p, rfl, S, V1, V2, I, hn, hm, hpa, k1, k2⟩ := h; rfl) (fun cdv A outer s H vs Q E hr h => ?_)
  obtain ⟨co, dx, o1, o2, td, bd, fd, F, R1, R2, r1, r2, pa, n, m, p, rfl, S, V1, V2, I, hn, hm, hpa, k1, k2⟩ := h
  have hu1 := hu_of hr
  have hu64 := hu64_of hr
  refine ⟨_, (Evl.pss_cut (ps_if (PW.pt (pw_and (pt_cmpR (op_inU hu1) (pv 1) (pe_fld (pv 0) rfl) (by first | exact nomark _ | rfl)) (pw_and1 (pt_cmpR (op_neU hu64) (pe_ix (ix_U hu1) (pe_fld (pv 0) rfl) (pv 1) (fun _ _ => rfl)) (pv 2) (by first | exact nomark _ | rfl))))) (pss_one (ps_ret (pe_tup (pa_cons (pe_strT (show (PySem.Str.ofString "same") = T [115, 97, 109, 101] by decide +kernel)) (pa_cons (pe_ix (ix_U hu1) (pe_fld (pv 0) rfl) (pv 1) (fun _ _ => rfl)) (pa_cons (pv 3) pa_nil)))))) pss_nil)
      (Evl.pss_cut (ps_if (PW.pt (pw_and (pt_cmpR (op_inU hu1) (pv 2) (pe_fld (pv 0) rfl) (by first | exact nomark _ | rfl)) (pw_and1 (pt_cmpR (op_neU hu64) (pe_ix (ix_U hu1) (pe_fld (pv 0) rfl) (pv 2) (fun _ _ => rfl)) (pv 1) (by first | exact nomark _ | rfl))))) (pss_one (ps_ret (pe_tup (pa_cons (pe_strT (show (PySem.Str.ofString "same") = T [115, 97, 109, 101] by decide +kernel)) (pa_cons (pe_ix (ix_U hu1) (pe_fld (pv 0) rfl) (pe_ix (ix_U hu1) (pe_fld (pv 0) rfl) (pv 2) (fun _ _ => rfl)) (fun _ _ => rfl)) (pa_cons (pv 3) pa_nil)))))) pss_nil)
      (pss_cons (ps_if (pt_cmpR (op_neU hu64) (pe_meth (pe_fld (pe_fld (pv 0) rfl) rfl) W.C_Store W.m_Store_size (ok_Store_size W) (hr.mono (by decide)) W.b_Store_size .nil pass0 (pa_cons (pv 1) pa_nil)) (pe_meth (pe_fld (pe_fld (pv 0) rfl) rfl) W.C_Store W.m_Store_size (ok_Store_size W) (hr.mono (by decide)) W.b_Store_size .nil pass0 (pa_cons (pv 2) pa_nil)) (by first | exact nomark _ | rfl)) (pss_one (ps_ret (pe_tup (pa_cons (pe_strT (show (PySem.Str.ofString "size") = T [115, 105, 122, 101] by decide +kernel)) (pa_cons (pv 3) pa_nil))))) pss_nil)
      (pss_one (ps_ret pe_non))))), ?_⟩
  refine z_start (σ := [some _, some _, some _, some _]) rfl ?_
  one_sign
  have hco := S.co
  have ht := S.t
  have hb := S.b
  have hf := S.f
  refine ⟨fun σ' H' => σ' = [some (.ref co), some (.int n), some (.int m), some (.ref pa)] ∧ H' = H ∧ ∀ f, lookN (c3F F) n = some f → f.2.1 = m, ?_, fun σ' H' hM => ?_⟩
  · one_sign
    rw [tD_val]
    cases e : lookN (c3F F) n with
    | none =>
      refine iteF ?_
      one_sign
      exact ⟨rfl, rfl, fun f hf => by cases hf⟩
    | some f =>
      obtain ⟨hfm, hf1⟩ := lookN_some e
      refine iteT ?_
      one_sign
      refine z_ixD ht (by rw [tD_val, e]; rfl) ?_
      one_sign
      refine iteND (fun h => ?_) (fun h => ?_)
      · obtain ⟨g, hg, rfl⟩ := c3_mem hfm
        have hfv := fD_val I.n1 hg
        have hf1 : g.1 = n := hf1
        rw [hf1] at hfv
        one_sign
        refine z_ixD hf hfv ?_
        one_sign
        refine z_newL (by show 3 ≤ sizeLine; decide) fun t H2 ht2 f2 e2 => ?_
        have ec : clashQ R1 R2 (c3F F) n m p = some (.same g.2.2.2 p) := by
          unfold clashQ
          rw [e]
          simp only [Option.bind_some]
          rw [if_neg h]
        exact k2 _ ec t H2 f2 ⟨_, _, e2, f2.g0 (S.i g hg), f2.g0 hpa⟩
      · one_sign
        exact ⟨rfl, rfl, fun f' hf' => by cases hf'; exact h⟩
  obtain ⟨rfl, rfl, a1⟩ := hM
  have e1 : ((lookN (c3F F) n).bind fun f => if f.2.1 = m then none else some (Vd.same f.2.2 p)) = none := by
    cases e : lookN (c3F F) n with
    | none => rfl
    | some f => simp only [Option.bind_some, if_pos (a1 f e)]
  refine ⟨fun σ' H2 => σ' = [some (.ref co), some (.int n), some (.int m), some (.ref pa)] ∧ H2 = H' ∧ ∀ f, lookM (c3F F) m = some f → f.1 = n, ?_, fun σ' H' hM => ?_⟩
  · one_sign
    rw [bD_val]
    cases e : lookM (c3F F) m with
    | none =>
      refine iteF ?_
      one_sign
      exact ⟨rfl, rfl, fun f hf => by cases hf⟩
    | some f =>
      obtain ⟨hfm, hf1⟩ := lookM_some e
      refine iteT ?_
      one_sign
      refine z_ixD hb (by rw [bD_val, e]; rfl) ?_
      one_sign
      refine iteND (fun h => ?_) (fun h => ?_)
      · obtain ⟨g, hg, rfl⟩ := c3_mem hfm
        have hfv := fD_val I.n1 hg
        one_sign
        refine z_ixD hb (by rw [bD_val, e]; rfl) ?_
        one_sign
        refine z_ixD hf hfv ?_
        one_sign
        refine z_newL (by show 3 ≤ sizeLine; decide) fun t H2 ht2 f2 e2 => ?_
        have ec : clashQ R1 R2 (c3F F) n m p = some (.same g.2.2.2 p) := by
          unfold clashQ
          rw [e1, e]
          simp only [Option.bind_some]
          rw [if_neg h]
        exact k2 _ ec t H2 f2 ⟨_, _, e2, f2.g0 (S.i g hg), f2.g0 hpa⟩
      · one_sign
        exact ⟨rfl, rfl, fun f' hf' => by cases hf'; exact h⟩
  obtain ⟨rfl, rfl, a2⟩ := hM
  have e2 : ((lookM (c3F F) m).bind fun f => if f.1 = n then none else some (Vd.same f.2.2 p)) = none := by
    cases e : lookM (c3F F) m with
    | none => rfl
    | some f => simp only [Option.bind_some, if_pos (a2 f e)]
  obtain ⟨dxs1, st1, pr1, rt1, hd1, al1, co1, dx1, fs1, x1, x2, x3, x4, x5, x6⟩ := V1.objs
  obtain ⟨dxs2, st2, pr2, rt2, hd2, al2, co2, dx2, fs2, y1, y2, y3, y4, y5, y6⟩ := V2.objs
  one_sign
  refine z_meth1 x2 x3 ?_
  one_sign
  refine x5 hn.1 hn.2 ?_
  one_sign
  refine z_meth1 y2 y3 ?_
  one_sign
  refine y5 hm.1 hm.2 ?_
  one_sign
  refine iteND (fun h => ?_) (fun h => ?_)
  · one_sign
    refine z_newL (by show 2 ≤ sizeLine; decide) fun t H2 ht2 f2 g2 => ?_
    refine k2 (.size p) ?_ t H2 f2 ⟨pa, g2, f2.g0 hpa⟩
    unfold clashQ
    rw [e1, e2]
    exact if_neg fun z => h (by rw [z])
  · one_sign
    refine k1 ?_
    unfold clashQ
    rw [e1, e2]
    exact if_pos (by omega)
end

end LX
namespace LX
open PySem PySem.Spec PyProof.Rows L2 NdefX
set_option hygiene false in
local macro_rules | `(tactic| k_memK) => `(tactic| first | exact W.na_Comparison_one | exact W.na_Comparison_other | exact W.na_Comparison_there | exact W.na_Comparison_back | exact W.na_Comparison_first | exact W.na_Store_room | exact W.na_Store_entries | exact W.na_Store_words | exact W.na_Store__places | exact W.na_Store__least | exact W.na_Space_store | exact W.na_Space_pressure | exact W.na_Space_always | exact W.na_Space_allocations | exact W.na_Space_collections | exact W.na_Space__roots | exact W.na_Space__held | exact W.na_Space__saved)
set_option hygiene false in
local macro_rules | `(tactic| k_ownIn) => `(tactic| first | exact W.C_Comparison | exact W.C_Store | exact W.C_Space)
local macro_rules | `(tactic| none_booked) => `(tactic| first | assumption | (refine Fr.g0 (by assumption) ?_; none_booked))
local macro_rules | `(tactic| one_sign) => `(tactic| repeat (first
  | refine Stp.h ?_
  | ((with_reducible refine' z_fld1 ?k0 ?k1 ?k2 ?k3 ?_); (case k0 => none_booked); (case k1 => k_ownIn); (case k2 => k_memK); (case k3 => rfl))
  | ((with_reducible refine' z_meth1 ?k0 ?k1 ?_); (case k0 => none_booked); (case k1 => rfl))
  | ((with_reducible refine' z_bmL ?k0 ?_); (case k0 => none_booked))
  | ((with_reducible refine' z_lenL ?k0 ?_); (case k0 => none_booked))
  | ((with_reducible refine' z_lenT ?k0 ?_); (case k0 => none_booked))
  | ((with_reducible refine' z_lenD ?k0 ?_); (case k0 => none_booked))
  | ((with_reducible refine' z_truL ?k0 ?_); (case k0 => none_booked))
  | ((with_reducible refine' z_truD ?k0 ?_); (case k0 => none_booked))
  | ((with_reducible refine' z_truT ?k0 ?_); (case k0 => none_booked))
  | ((with_reducible refine' z_inDIP ?k0 ?_); (case k0 => none_booked))
  | ((with_reducible refine' z_inDIN ?k0 ?_); (case k0 => none_booked))
  | ((with_reducible refine' z_inDfP ?k0 ?_); (case k0 => none_booked))
  | ((with_reducible refine' z_inDfN ?k0 ?_); (case k0 => none_booked))
  | ((with_reducible refine' z_iList1 ?k0 ?_); (case k0 => none_booked))
  | ((with_reducible refine' z_isi0 ?k0 ?k1 ?k2 ?_); (case k0 => exact (ClsV.ty _)); (case k1 => exact (TyX.base (TyOf.lst (by none_booked)))); (case k2 => first | exact kt_list_int | exact kt_list_bool | exact kt_list_str | exact kt_list_list | exact kt_list_tuple | exact kt_list_dict))
  | ((with_reducible refine' z_rI ?k0 ?_); (case k0 => first | exact (by decide : (0 : Int) < _) | exact ⟨by decide, by decide⟩ | exact ⟨by decide, by decide, by decide⟩ | (show (0 : Int) < _; omega)))
  | ((with_reducible refine' z_mulI ?k0 ?_); (case k0 => first | exact Or.inr ⟨by decide, by decide⟩ | exact Or.inl ⟨by decide, by decide⟩ | exact Or.inl ⟨by omega, by omega⟩ | exact Or.inr ⟨by omega, by omega⟩))))
local macro_rules | `(tactic| leaf_len) => `(tactic| (simp only [wipe, List.map_cons, List.map_nil, List.set_cons_zero, List.set_cons_succ]; one_sign; refine z_ok rfl ?_; one_sign))
theorem c3F_app (F : List C3) (f : C3) : c3F (F ++ [f]) = c3F F ++ [(f.1, f.2.1, f.2.2.2)] := List.map_append
theorem fD_mem {F : List C3} {n : Int} {v : V} (h : valV (fD F) (.inl n) = some v) : ∃ g ∈ F, g.1 = n := by
  unfold valV fD at h
  rw [List.find?_map] at h
  simp only [Function.comp_def, dec_key] at h
  cases e : F.find? (fun x => decide (x.1 = n)) with
  | none => rw [e] at h; cases h
  | some g => exact ⟨g, List.mem_of_find?_eq_some e, of_decide_eq_true (find_pos e).2⟩
theorem putK_n {kvs : List (Key × V)} {n : Key} {v : V} (h : valV kvs n = none) : putK kvs n v = kvs ++ [(n, v)] := putK_new _ h
theorem WV.rowN_len {C CS PT : Addr} {H : Hp} {sp : Addr} {R : List (List Int)} {r : List Int} (V : WV C CS PT H sp R r) {n : Int} (h0 : 0 ≤ n) (h1 : n < R.length) : (rowN R n).length ≤ 26 := V.bds.2.1 _ (List.mem_of_getElem? (row_of h0 h1))
theorem VdAt.keep {H H' : Hp} {a : Addr} {v : Vd} (h : VdAt H a v) (f : Fr [] H H') : VdAt H' a v := by
  cases v with
  | held => exact f.g0 h
  | word p => obtain ⟨pa, h1, h2⟩ := h; exact ⟨pa, f.g0 h1, f.g0 h2⟩
  | size p => obtain ⟨pa, h1, h2⟩ := h; exact ⟨pa, f.g0 h1, f.g0 h2⟩
  | same p q => obtain ⟨pa, qa, h1, h2, h3⟩ := h; exact ⟨pa, qa, f.g0 h1, f.g0 h2, f.g0 h3⟩
  | alike ps => obtain ⟨l, A, h1, h2, h3, h4⟩ := h; exact ⟨l, A, f.g0 h1, f.g0 h2, h3, fun i a p e1 e2 => f.g0 (h4 i a p e1 e2)⟩
section
variable {P : Program} {w : World} {K : PySem.W.Frag} {mg : Str → Option Value} {base : Heap}
def sp_met (C CS PT CC : Addr) : Sp := fun vs H Q _ => ∃ co dx o1 o2 td bd fd F R1 R2 r1 r2 pa H0, ∃ (x y : Int) (p : List Int), vs = [.ref co, .ref pa, .int x, .int y] ∧ Cmp H CC co dx o1 o2 td bd fd F ∧ Fr [] H0 H ∧ (H0 td = none ∧ H0 bd = none ∧ H0 fd = none) ∧ WV C CS PT H0 o1 R1 r1 ∧ WV C CS PT H0 o2 R2 r2 ∧ CInv R1 R2 r1 r2 (c3F F) ∧ H pa = some (.tup (p.map V.int)) ∧ p.length ≤ 1000 ∧
  (∀ v, stepQ R1 R2 (c3F F) (p, x, y) = .inl v → ∀ t u l H', H' t = some (.tup [.ref u, .ref l]) → VdAt H' u v → Fr [] H H' → Q (.ref t) H') ∧
  (∀ F' more, stepQ R1 R2 (c3F F) (p, x, y) = .inr (F', more) → ∀ t l W F3 H', c3F F3 = F' → w3Q W = more → H' t = some (.tup [.non, .ref l]) → H' l = some (.lst (w3L W)) → W3I H' W → Cmp H' CC co dx o1 o2 td bd fd F3 → Fr [td, bd, fd] H H' → Fr [] H0 H' → TP H H' → Q (.ref t) H')
theorem ok_Comparison_met (W : WT P K mg base) : FnOk P w K mg base CX0 4 W.f_Comparison_met W.fd_Comparison_met ["self", "path", "word", "match"] (sp_met W.c_Store W.c_Space W.PT_Store_close_up W.c_Comparison) := by
  refine W.F_Comparison_met.ok sc_Comparison_met (fun vs H Q E h => by obtain ⟨co, dx, o1, o2, td, bd, fd, F, R1, R2, r1, r2, pa, H0, x, y, p, rfl, S, f0, ⟨z1, z2, z3⟩, V1', V2', I, hpa, hp, k1, k2⟩ := h; rfl) (fun cdv A outer s H vs Q E hr h => ?_)
  obtain ⟨co, dx, o1, o2, td, bd, fd, F, R1, R2, r1, r2, pa, H0, x, y, p, rfl, S, f0, ⟨z1, z2, z3⟩, V1', V2', I, hpa, hp, k1, k2⟩ := h
  have hu1 := hu_of hr
  have hu64 := hu64_of hr
  refine ⟨_, (pss_cons (ps_set (i := 4) sc_Comparison_met.nd rfl (by first | exact Or.inl rfl | exact Or.inr rfl) (pe_call (ok_object_of W) (hr.mono (by decide)) rfl W.g_object_of W.F_object_of.kp W.b_object_of .nil pass0 (pa_cons (pe_fld (pv 0) rfl) (pa_cons (pv 2) pa_nil))))
      (pss_cons (ps_set (i := 5) sc_Comparison_met.nd rfl (by first | exact Or.inl rfl | exact Or.inr rfl) (pe_call (ok_object_of W) (hr.mono (by decide)) rfl W.g_object_of W.F_object_of.kp W.b_object_of .nil pass0 (pa_cons (pe_fld (pv 0) rfl) (pa_cons (pv 3) pa_nil))))
      (pss_cons (ps_if (PW.pt (pw_or (pt_cmpR op_isU (pv 4) pe_non (by first | exact nomark _ | rfl)) (pw_or1 (pt_cmpR op_isU (pv 5) pe_non (by first | exact nomark _ | rfl))))) (pss_cons (ps_if (PW.pt (pw_and (pt_cmpR op_isU (pv 4) pe_non (by first | exact nomark _ | rfl)) (pw_and (pt_cmpR op_isU (pv 5) pe_non (by first | exact nomark _ | rfl)) (pw_and1 (pt_cmpR (op_eqU hu64) (pv 2) (pv 3) (by first | exact nomark _ | rfl)))))) (pss_one (ps_ret (pe_tup (pa_cons pe_non (pa_cons (pe_lst pa_nil) pa_nil))))) pss_nil)
      (pss_one (ps_ret (pe_tup (pa_cons (pe_tup (pa_cons (pe_strT (show (PySem.Str.ofString "word") = T [119, 111, 114, 100] by decide +kernel)) (pa_cons (pv 1) pa_nil))) (pa_cons (pe_lst pa_nil) pa_nil)))))) pss_nil)
      (pss_cons (ps_set (i := 6) sc_Comparison_met.nd rfl (by first | exact Or.inl rfl | exact Or.inr rfl) (pe_meth (pv 0) W.C_Comparison W.m_Comparison_clash (ok_Comparison_clash W) (hr.mono (by decide)) W.b_Comparison_clash .nil pass0 (pa_cons (pv 4) (pa_cons (pv 5) (pa_cons (pv 1) pa_nil)))))
      (pss_cons (ps_if (PW.pt (pw_or (pt_cmpR op_isnotU (pv 6) pe_non (by first | exact nomark _ | rfl)) (pw_or1 (pt_cmpR (op_inU hu1) (pv 4) (pe_fld (pv 0) rfl) (by first | exact nomark _ | rfl))))) (pss_one (ps_ret (pe_tup (pa_cons (pv 6) (pa_cons (pe_lst pa_nil) pa_nil))))) pss_nil)
      (pss_cons (ps_dput hu1 (pe_fld (pv 0) rfl) (pv 4) (pv 5) rfl)
      (pss_cons (ps_dput hu1 (pe_fld (pv 0) rfl) (pv 5) (pv 4) rfl)
      (pss_cons (ps_dput hu1 (pe_fld (pv 0) rfl) (pv 4) (pv 1) rfl)
      (pss_one (ps_ret (pe_tup (pa_cons pe_non (pa_cons (pe_call (ok_following W) (hr.mono (by decide)) rfl W.g_following W.F_following.kp W.b_following .nil pass0 (pa_cons (pv 1) (pa_cons (pe_call (ok_row_of W) (hr.mono (by decide)) rfl W.g_row_of W.F_row_of.kp W.b_row_of .nil pass0 (pa_cons (pe_fld (pv 0) rfl) (pa_cons (pv 4) pa_nil))) (pa_cons (pe_call (ok_row_of W) (hr.mono (by decide)) rfl W.g_row_of W.F_row_of.kp W.b_row_of .nil pass0 (pa_cons (pe_fld (pv 0) rfl) (pa_cons (pv 5) pa_nil))) pa_nil)))) pa_nil))))))))))))), ?_⟩
  refine z_start (σ := [some _, some _, some _, some _, none, none, none]) rfl ?_
  one_sign
  have V1 := V1'.keep f0
  have V2 := V2'.keep f0
  have hco := S.co
  have ht := S.t
  have hb := S.b
  have hf := S.f
  have wrd : ∀ (H0' : Hp), True := fun _ => trivial
  one_sign
  refine V1.obj ?_
  one_sign
  refine V2.obj ?_
  have wd : ∀ v, stepQ R1 R2 (c3F F) (p, x, y) = .inl v → v = .word p → oNew (.tup [.str sWORD, .ref pa]) 2 H fun q H2 => oNew (.lst []) 0 H2 fun l H3 => oNew (.tup [q, l]) 2 H3 Q := fun v e hv => by
    subst hv
    refine z_newL (by show 2 ≤ sizeLine; decide) fun u H2 hu f2 u2 => ?_
    refine z_newL (by show 0 ≤ sizeLine; decide) fun l H3 hl f3 l3 => ?_
    refine z_newL (by show 2 ≤ sizeLine; decide) fun t H4 ht f4 t4 => ?_
    exact k1 _ e t u l H4 t4 ⟨pa, f4.g0 (f3.g0 u2), f4.g0 (f3.g0 (f2.g0 hpa))⟩ ((f2.trans f3).trans f4)
  have stay : stepQ R1 R2 (c3F F) (p, x, y) = .inr (c3F F, []) → oNew (.lst []) 0 H fun l H3 => oNew (.tup [.non, l]) 2 H3 Q := fun e => by
    refine z_newL (by show 0 ≤ sizeLine; decide) fun l H3 hl f3 l3 => ?_
    refine z_newL (by show 2 ≤ sizeLine; decide) fun t H4 ht f4 t4 => ?_
    have f34 := f3.trans f4
    exact k2 _ _ e t l [] F H4 rfl rfl t4 (f4.g0 l3) (fun x hx => (by cases hx)) (S.keep f34) (f34.mono (by simp)) (f0.trans f34) f34.tp
  cases e1 : objN R1 x with
  | none =>
    cases e2 : objN R2 y with
    | none =>
      simp only [optV]
      one_sign
      by_cases h : x = y
      · rw [decide_eq_true h]
        refine iteT ?_
        one_sign
        refine stay ?_
        simp only [stepQ, e1, e2, if_pos h]
      · rw [decide_eq_false h]
        refine iteF ?_
        one_sign
        refine wd (.word p) ?_ rfl
        simp only [stepQ, e1, e2, if_neg h]
    | some m =>
      simp only [optV]
      one_sign
      refine wd (.word p) ?_ rfl
      simp only [stepQ, e1, e2]
  | some n =>
    cases e2 : objN R2 y with
    | none =>
      simp only [optV]
      one_sign
      refine wd (.word p) ?_ rfl
      simp only [stepQ, e1, e2]
    | some m =>
      simp only [optV]
      obtain ⟨-, -, n0, n1⟩ := objN_ok e1
      obtain ⟨-, -, m0, m1⟩ := objN_ok e2
      one_sign
      refine ⟨co, dx, o1, o2, td, bd, fd, F, R1, R2, r1, r2, pa, n, m, p, rfl, S, V1, V2, I, ⟨n0, n1⟩, ⟨m0, m1⟩, hpa, fun ec => ?_, fun v ec t H2 f2 hv => ?_⟩
      · one_sign
        rw [tD_val]
        cases el : lookN (c3F F) n with
        | some f =>
          refine iteT ?_
          one_sign
          refine stay ?_
          simp only [stepQ, e1, e2, ec, el, Option.isSome_some, if_true]
        | none =>
          refine iteF ?_
          have eb : lookM (c3F F) m = none := by
            cases em : lookM (c3F F) m with
            | none => rfl
            | some f =>
              have h1 := (clash_none ec).2.1 f em
              have h2 := (lookM_some em).1
              exact absurd (List.mem_map_of_mem (f := (·.1)) h2) (by rw [h1]; exact lookN_none el)
          have hlen := I.len
          have hlF : (c3F F).length = F.length := List.length_map _
          have hR := V1.bds.1
          have hst : stepQ R1 R2 (c3F F) (p, x, y) = .inr (c3F F ++ [(n, m, p)], kids R1 R2 p n m) := by
            simp only [stepQ, e1, e2, ec, el, Option.isSome_none, Bool.false_eq_true, if_false]
          one_sign
          refine z_dputI ht (by unfold tD; rw [List.length_map, sizeLine_eq]; omega) fun H2 f2 t2 n2 => ?_
          rw [putK_n (by rw [tD_val, el]; rfl)] at t2
          have co2 := f2.g hco (nin (ne_of hco ht (by intro z; cases z)))
          have b2 := f2.g hb (nin S.tb.symm)
          have fd2 := f2.g hf (nin S.tf.symm)
          one_sign
          refine z_dputI b2 (by unfold bD; rw [List.length_map, sizeLine_eq]; omega) fun H3 f3 b3 n3 => ?_
          rw [putK_n (by rw [bD_val, eb]; rfl)] at b3
          have co3 := f3.g co2 (nin (ne_of co2 b2 (by intro z; cases z)))
          have t3 := f3.g t2 (nin S.tb)
          have fd3 := f3.g fd2 (nin S.bf.symm)
          one_sign
          refine z_dputI fd3 (by unfold fD; rw [List.length_map, sizeLine_eq]; omega) fun H4 f4 fd4 n4 => ?_
          rw [putK_n (by
            cases e : valV (fD F) (.inl n) with
            | none => rfl
            | some v =>
              obtain ⟨g, hg, hk⟩ := fD_mem e
              exact absurd (List.mem_map_of_mem (f := (·.1)) (List.mem_map_of_mem (f := fun f : C3 => (f.1, f.2.1, f.2.2.2)) hg)) (by rw [show (g.1, g.2.1, g.2.2.2).1 = n from hk]; exact lookN_none el))] at fd4
          have co4 := f4.g co3 (nin (ne_of co3 fd3 (by intro z; cases z)))
          have t4 := f4.g t3 (nin S.tf)
          have b4 := f4.g b3 (nin S.bf)
          have tp4 : TP H H4 := ((f2.tp1 ht (by intro _ z; cases z)).trans (f3.tp1 b2 (by intro _ z; cases z))).trans (f4.tp1 fd3 (by intro _ z; cases z))
          have g4 : Fr [] H0 H4 := ((f0.in f2 z1).in f3 z2).in f4 z3
          have V14 := V1'.keep g4
          have V24 := V2'.keep g4
          have F4 : Fr [td, bd, fd] H H4 := ((f2.mono (by simp)).trans (f3.mono (by simp))).trans (f4.mono (by simp))
          one_sign
          refine V14.row n0 n1 fun q1 H5 hq1 q15 f5 => ?_
          one_sign
          refine (V24.keep f5).row m0 m1 fun q2 H6 hq2 q26 f6 => ?_
          have f46 := f5.trans f6
          have hlr := (clash_none ec).2.2
          have hl1 := V1.rowN_len n0 n1
          refine ⟨pa, q1, q2, p, rowN R1 n, rowN R2 m, rfl, f46.g0 (tp4 _ _ hpa), f6.g0 q15, q26, Nat.le_of_eq hlr, by omega, hp, fun l W3 H7 hl l7 w7 hQ f7 => ?_⟩
          one_sign
          refine z_newL (by show 2 ≤ sizeLine; decide) fun t H8 ht8 f8 t8 => ?_
          have f48 := (f46.trans f7).trans f8
          refine k2 _ _ hst t l W3 (F ++ [(n, m, pa, p)]) H8 (c3F_app F _) hQ t8 (f8.g0 l7) (w7.mono f8.tp) ⟨f48.g0 co4, f48.g0 (by unfold tD; rw [List.map_append]; exact t4), f48.g0 (by unfold bD; rw [List.map_append]; exact b4), f48.g0 (by unfold fD; rw [List.map_append]; exact fd4), fun f hf => ?_, S.tb, S.tf, S.bf⟩ (F4.trans (f48.mono (by simp))) (g4.trans f48) (tp4.trans f48.tp)
          rcases List.mem_append.mp hf with hf | hf
          · exact f48.g0 (tp4 _ _ (S.i f hf))
          · rw [List.mem_singleton.mp hf]
            exact f48.g0 (tp4 _ _ hpa)
      · one_sign
        refine z_newL (by show 0 ≤ sizeLine; decide) fun l H3 hl f3 l3 => ?_
        one_sign
        refine z_newL (by show 2 ≤ sizeLine; decide) fun t' H4 ht4 f4 t4 => ?_
        have f34 := f3.trans f4
        exact k1 v (by simp only [stepQ, e1, e2, ec]) t' t l H4 t4 (hv.keep f34) (f2.trans f34)
end

end LX
namespace LX
open PySem PySem.Spec PyProof.Rows L2 NdefX
/-- the state of a comparison: what is left leads to the verdict Vv -/
structure QS (R1 R2 : List (List Int)) (r1 r2 : List Int) (Vv : Vd) (F : List CFd) (W : List QIt) : Prop where
  I : CInv R1 R2 r1 r2 F
  q : QOk R1 R2 r1 r2 W
  c : Cls R1 R2 r1 r2 F W
  l : ∀ x ∈ W, x.1.length ≤ F.length + 1
  v : qrun R1 R2 (mu R1 F W) F W = Vv
theorem mu_cons (R1 : List (List Int)) (F : List CFd) (x : QIt) (W : List QIt) : mu R1 F (x :: W) = mu R1 F W + 1 := by unfold mu; rw [List.length_cons]; omega
theorem QS.inl {R1 R2 : List (List Int)} {r1 r2 : List Int} {Vv v : Vd} {F : List CFd} {x : QIt} {W : List QIt} (h : QS R1 R2 r1 r2 Vv F (x :: W)) (e : stepQ R1 R2 F x = .inl v) : v = Vv := by
  have := h.v
  rw [mu_cons] at this
  rw [← this]
  show v = (match stepQ R1 R2 F x with | .inl v => v | .inr (F', more) => qrun R1 R2 _ F' (W ++ more))
  rw [e]
theorem QS.inr {R1 R2 : List (List Int)} {r1 r2 : List Int} {Vv : Vd} {F F' : List CFd} {x : QIt} {W more : List QIt} (hb : ∀ r ∈ R1, r.length ≤ 26) (hl : r1.length = r2.length) (h : QS R1 R2 r1 r2 Vv F (x :: W)) (e : stepQ R1 R2 F x = .inr (F', more)) : QS R1 R2 r1 r2 Vv F' (W ++ more) ∧ mu R1 F' (W ++ more) + 1 ≤ mu R1 F (x :: W) ∧ more.length ≤ 26 := by
  obtain ⟨q1, q2⟩ := h.q x List.mem_cons_self
  obtain ⟨I', Q', C', hlen⟩ := step_go h.I q1 q2 e h.c hb
  have hF := h.I.len
  have hF' := I'.len
  have hmu : mu R1 F' (W ++ more) + 1 ≤ mu R1 F (x :: W) := by
    unfold mu
    rw [List.length_append, List.length_cons]
    rcases hlen with ⟨rfl, rfl⟩ | ⟨h1, h2⟩
    · simp only [List.length_nil]; omega
    · rw [h1] at hF' ⊢; omega
  have hq : QOk R1 R2 r1 r2 (W ++ more) := fun y hy => (List.mem_append.mp hy).elim (fun z => h.q y (List.mem_cons_of_mem _ z)) (Q' y)
  have hv := h.v
  rw [mu_cons] at hv hmu
  have hv : qrun R1 R2 (mu R1 F W) F' (W ++ more) = Vv := by
    rw [← hv]
    show _ = (match stepQ R1 R2 F x with | .inl v => v | .inr (F', more) => qrun R1 R2 _ F' (W ++ more))
    rw [e]
  refine ⟨⟨I', hq, C', fun y hy => ?_, ?_⟩, by rw [mu_cons]; exact hmu, hlen.elim (fun z => by rw [z.2]; exact Nat.zero_le _) (fun z => z.2)⟩
  · have hge : F.length ≤ F'.length := by rcases hlen with ⟨rfl, -⟩ | ⟨h1, -⟩ <;> omega
    rcases List.mem_append.mp hy with hy | hy
    · have := h.l y (List.mem_cons_of_mem _ hy); omega
    · have hx := h.l x List.mem_cons_self
      have hlx : F' ≠ F ∧ y.1.length = x.1.length + 1 ∨ False := by
        unfold stepQ at e
        cases e1 : objN R1 x.2.1 with
        | none => cases e2 : objN R2 x.2.2 with
          | none =>
            simp only [e1, e2] at e
            by_cases hxy : x.2.1 = x.2.2
            · rw [if_pos hxy] at e; cases e; cases hy
            · rw [if_neg hxy] at e; cases e
          | some m => simp only [e1, e2] at e; cases e
        | some n => cases e2 : objN R2 x.2.2 with
          | none => simp only [e1, e2] at e; cases e
          | some m =>
            simp only [e1, e2] at e
            cases ec : clashQ R1 R2 F n m x.1 with
            | some v => simp only [ec] at e; cases e
            | none =>
              simp only [ec] at e
              by_cases hs : (lookN F n).isSome = true
              · rw [if_pos hs] at e; cases e; cases hy
              · rw [if_neg hs] at e
                cases e
                refine Or.inl ⟨fun z => by have := congrArg List.length z; rw [List.length_append] at this; simp at this, ?_⟩
                unfold kids at hy
                rw [List.mem_mapIdx] at hy
                obtain ⟨i, hi, rfl⟩ := hy
                simp
      rcases hlx with ⟨hne, hy1⟩ | z
      · rcases hlen with ⟨z, -⟩ | ⟨h1, -⟩
        · exact absurd z hne
        · omega
      · exact z.elim
  · rw [← hv]
    exact ((run_hold hb hl (mu R1 F' (W ++ more)) F' (W ++ more) I' hq C' (Nat.le_refl _)).2 _ (by omega)).symm
theorem QS.nil {R1 R2 : List (List Int)} {r1 r2 : List Int} {Vv : Vd} {F : List CFd} (h : QS R1 R2 r1 r2 Vv F []) : Vv = .alike (prs F) := by
  rw [← h.v]
  cases mu R1 F [] <;> rfl
theorem QS.start {R1 R2 : List (List Int)} {r1 r2 : List Int} (hl : r1.length = r2.length) : QS R1 R2 r1 r2 (vdt R1 R2 r1 r2) [] (starts r1 r2) := by
  refine ⟨inv0, starts_ok hl, cls0, fun x hx => ?_, by unfold vdt; rw [if_pos hl]⟩
  unfold starts at hx
  rw [List.mem_mapIdx] at hx
  obtain ⟨i, hi, rfl⟩ := hx
  simp

end LX
namespace LX
open PySem PySem.Spec PyProof.Rows L2 NdefX
set_option hygiene false in
local macro_rules | `(tactic| k_memK) => `(tactic| first | exact W.na_Comparison_one | exact W.na_Comparison_other | exact W.na_Comparison_there | exact W.na_Comparison_back | exact W.na_Comparison_first | exact W.na_Store_room | exact W.na_Store_entries | exact W.na_Store_words | exact W.na_Store__places | exact W.na_Store__least | exact W.na_Space_store | exact W.na_Space_pressure | exact W.na_Space_always | exact W.na_Space_allocations | exact W.na_Space_collections | exact W.na_Space__roots | exact W.na_Space__held | exact W.na_Space__saved)
set_option hygiene false in
local macro_rules | `(tactic| k_ownIn) => `(tactic| first | exact W.C_Comparison | exact W.C_Store | exact W.C_Space)
local macro_rules | `(tactic| none_booked) => `(tactic| first | assumption | (refine Fr.g0 (by assumption) ?_; none_booked))
local macro_rules | `(tactic| one_sign) => `(tactic| repeat (first
  | refine Stp.h ?_
  | ((with_reducible refine' z_fld1 ?k0 ?k1 ?k2 ?k3 ?_); (case k0 => none_booked); (case k1 => k_ownIn); (case k2 => k_memK); (case k3 => rfl))
  | ((with_reducible refine' z_meth1 ?k0 ?k1 ?_); (case k0 => none_booked); (case k1 => rfl))
  | ((with_reducible refine' z_bmL ?k0 ?_); (case k0 => none_booked))
  | ((with_reducible refine' z_lenL ?k0 ?_); (case k0 => none_booked))
  | ((with_reducible refine' z_lenT ?k0 ?_); (case k0 => none_booked))
  | ((with_reducible refine' z_lenD ?k0 ?_); (case k0 => none_booked))
  | ((with_reducible refine' z_truL ?k0 ?_); (case k0 => none_booked))
  | ((with_reducible refine' z_truD ?k0 ?_); (case k0 => none_booked))
  | ((with_reducible refine' z_truT ?k0 ?_); (case k0 => none_booked))
  | ((with_reducible refine' z_inDIP ?k0 ?_); (case k0 => none_booked))
  | ((with_reducible refine' z_inDIN ?k0 ?_); (case k0 => none_booked))
  | ((with_reducible refine' z_inDfP ?k0 ?_); (case k0 => none_booked))
  | ((with_reducible refine' z_inDfN ?k0 ?_); (case k0 => none_booked))
  | ((with_reducible refine' z_iList1 ?k0 ?_); (case k0 => none_booked))
  | ((with_reducible refine' z_isi0 ?k0 ?k1 ?k2 ?_); (case k0 => exact (ClsV.ty _)); (case k1 => exact (TyX.base (TyOf.lst (by none_booked)))); (case k2 => first | exact kt_list_int | exact kt_list_bool | exact kt_list_str | exact kt_list_list | exact kt_list_tuple | exact kt_list_dict))
  | ((with_reducible refine' z_rI ?k0 ?_); (case k0 => first | exact (by decide : (0 : Int) < _) | exact ⟨by decide, by decide⟩ | exact ⟨by decide, by decide, by decide⟩ | (show (0 : Int) < _; omega)))
  | ((with_reducible refine' z_mulI ?k0 ?_); (case k0 => first | exact Or.inr ⟨by decide, by decide⟩ | exact Or.inl ⟨by decide, by decide⟩ | exact Or.inl ⟨by omega, by omega⟩ | exact Or.inr ⟨by omega, by omega⟩))))
local macro_rules | `(tactic| leaf_len) => `(tactic| (simp only [wipe, List.map_cons, List.map_nil, List.set_cons_zero, List.set_cons_succ]; one_sign; refine z_ok rfl ?_; one_sign))
section
variable {K : PySem.W.Frag} {g : TG} {tt : TT} {te : TE} {vs : List Nat} {σ : L2.St} {H H1 : Hp} {R : Addr}
theorem z_lcKH {td : TE} {d : Addr} {kvs : List (Key × V)} {Q : VK} (htd : ∀ od (R : VK), R (.ref d) (upd H d (.frz od (.dK kvs))) → td σ (upd H d (.frz od (.dK kvs))) R) (hd : H d = some (.dK kvs)) (Pv : Nat → List V → Hp → Prop)
    (h0 : ∀ od HF R H', Fr [d] H HF → HF d = some (.frz od (.dK kvs)) → HF R = none → Fr [] HF H' → Pv 0 [] H')
    (hs : ∀ od HF R i k v xs H', Fr [d] H HF → HF d = some (.frz od (.dK kvs)) → HF R = none → kvs[i]? = some (k, v) → i < kvs.length → xs.length ≤ i → Pv i xs H' → H' R = some (.lst xs) → Fr [] HF H' → g (kV k) (wipe σ vs) H' fun σ2 H2 => wipe σ2 vs = wipe σ vs ∧ tt σ2 H2 fun b H3 =>
      if b = true then te σ2 H3 fun y H4 => LcY HF R Pv (i + 1) y H4 else LcI HF R Pv (i + 1) H3)
    (he : ∀ R xs H' H2, H R = none → Pv kvs.length xs H' → xs.length ≤ kvs.length → H2 R = some (.lst xs) → Fr [d] H' H2 → Fr [] H H2 → Q (.ref R) H2) :
    tLockE (tLc (iKeys td) g tt te vs) σ H Q := by
  refine ⟨d, .dK kvs, hd, trivial, fun od => ?_⟩
  refine htd _ _ ⟨d, od, rfl, Or.inl ⟨kvs, upd_same, fun R hR => ?_⟩⟩
  have hF : upd H d (.frz od (.dK kvs)) d = some (.frz od (.dK kvs)) := upd_same
  have fF : Fr [d] H (upd H d (.frz od (.dK kvs))) := Fr.at (by simp)
  have nR : R ≠ d := fun z => by rw [z, upd_same] at hR; cases hR
  have hR0 : H R = none := by rw [upd_ne nR] at hR; exact hR
  have lk : ∀ H', Fr [] (upd H d (.frz od (.dK kvs))) H' → Fr [] H (upd H' d (.dK kvs)) := fun H' f => Fr.lock hd f
  generalize upd H d (.frz od (.dK kvs)) = HF at hF fF hR lk
  refine ⟨fun i m H' => m = kvs.length - i ∧ i ≤ kvs.length ∧ LcI HF R Pv i H', ⟨kvs.length, by simp, Nat.zero_le _, [], Nat.le_refl _, h0 od HF R _ fF hF hR (Fr.new hR), upd_same, Fr.new hR⟩, ?_⟩
  rintro i m H' ⟨rfl, hi, xs, hl, p, hx, f⟩
  by_cases hlt : i < kvs.length
  · refine .inr ⟨⟨f.g0 hF, hlt⟩, fun H' => LcI HF R Pv (i + 1) H', fun H'' p' => ⟨kvs.length - (i + 1), by omega, rfl, hlt, p'⟩, fun x H'' y => ?_⟩
    obtain ⟨e, k, v, hk, ex⟩ := y
    subst e ex
    exact hs od HF R i k v xs _ fF hF hR hk hlt hl p hx f
  · have e : i = kvs.length := by omega
    subst e
    exact .inl ⟨⟨f.g0 hF, Nat.le_refl _⟩, f.g0 hF, he R xs H' _ hR0 p hl (by rw [upd_ne nR]; exact hx) (Fr.at (by simp)) (lk _ f)⟩
end
theorem PrsAt.keep {H H' : Hp} {A : List Addr} {ps : List (Int × Int)} (h : PrsAt H A ps) (f : Fr [] H H') : PrsAt H' A ps := ⟨h.1, fun i a p e1 e2 => f.g0 (h.2 i a p e1 e2)⟩
theorem PrsAt.snoc {H : Hp} {A : List Addr} {ps : List (Int × Int)} {a : Addr} {p : Int × Int} (h : PrsAt H A ps) (e : H a = some (.tup [.int p.1, .int p.2])) : PrsAt H (A ++ [a]) (ps ++ [p]) := by
  refine ⟨by rw [List.length_append, List.length_append, h.1]; rfl, fun i b q e1 e2 => ?_⟩
  by_cases hi : i < A.length
  · rw [List.getElem?_append_left hi] at e1
    rw [List.getElem?_append_left (by rw [← h.1]; exact hi)] at e2
    exact h.2 i b q e1 e2
  · rw [List.getElem?_append_right (by omega)] at e1
    rw [List.getElem?_append_right (by rw [← h.1]; omega), ← h.1] at e2
    cases hh : i - A.length with
    | zero => rw [hh] at e1 e2; cases e1; cases e2; exact e
    | succ k => rw [hh] at e1; cases e1
section
variable {P : Program} {w : World} {K : PySem.W.Frag} {mg : Str → Option Value} {base : Heap}
theorem w3_cons {W : List W3} {j : Nat} {y : W3} (h : W[j]? = some y) : w3Q (W.drop j) = (y.2.2.1, y.2.2.2.1, y.2.2.2.2) :: w3Q (W.drop (j + 1)) := by
  have hj : j < W.length := by rw [List.getElem?_eq_some_iff] at h; exact h.1
  rw [List.drop_eq_getElem_cons hj]
  rw [List.getElem?_eq_getElem hj] at h
  cases h
  rfl
theorem starts_kids (r1 r2 : List Int) : kidsR [] r1 r2 = starts r1 r2 := rfl
def sp_verdict (C CS PT CC : Addr) : Sp := fun vs H Q _ => ∃ co dx o1 o2 td bd fd R1 R2 r1 r2 H0, vs = [.ref co] ∧ Cmp H CC co dx o1 o2 td bd fd [] ∧ Fr [] H0 H ∧ (H0 td = none ∧ H0 bd = none ∧ H0 fd = none) ∧ WV C CS PT H0 o1 R1 r1 ∧ WV C CS PT H0 o2 R2 r2 ∧ r1.length = r2.length ∧
  (∀ t H', VdAt H' t (vdt R1 R2 r1 r2) → Fr [] H0 H' → Q (.ref t) H')
theorem ok_Comparison_verdict (W : WT P K mg base) : FnOk P w K mg base CX0 5 W.f_Comparison_verdict W.fd_Comparison_verdict ["self"] (sp_verdict W.c_Store W.c_Space W.PT_Store_close_up W.c_Comparison) := by
  refine W.F_Comparison_verdict.ok sc_Comparison_verdict (fun vs H Q E h => by obtain ⟨co, dx, o1, o2, td, bd, fd, R1, R2, r1, r2, H0, rfl, S, f0, ⟨z1, z2, z3⟩, V1', V2', hl, k⟩ := h; rfl) (fun cdv A outer s H vs Q E hr h => ?_)
  obtain ⟨co, dx, o1, o2, td, bd, fd, R1, R2, r1, r2, H0, rfl, S, f0, ⟨z1, z2, z3⟩, V1', V2', hl, k⟩ := h
  have hu1 := hu_of hr
  have hu64 := hu64_of hr
  refine ⟨_, (pss_cons (ps_set (i := 1) sc_Comparison_verdict.nd rfl (by first | exact Or.inl rfl | exact Or.inr rfl) (pe_call (ok_following W) (hr.mono (by decide)) rfl W.g_following W.F_following.kp W.b_following .nil pass0 (pa_cons (pe_tup pa_nil) (pa_cons (pe_meth0 (pe_fld (pv 0) rfl) W.C_Space W.m_Space_all_roots (ok_Space_all_roots W) (hr.mono (by decide)) W.b_Space_all_roots .nil pass0 ) (pa_cons (pe_meth0 (pe_fld (pv 0) rfl) W.C_Space W.m_Space_all_roots (ok_Space_all_roots W) (hr.mono (by decide)) W.b_Space_all_roots .nil pass0 ) pa_nil)))))
      (pss_cons (ps_while PassesOwn.never (pt_truth (pv 1) (by intro _; rfl)) (pss_cons (ps_set (i := 2) sc_Comparison_verdict.nd rfl (by first | exact Or.inl rfl | exact Or.inr rfl) (pe_lst pa_nil))
      (pss_cons (ps_for PassesOwn.never rfl (pi_list (pv 1)) (pg_tup rfl (pgs_cons (pg_name (i := 3) sc_Comparison_verdict.nd rfl (by first | exact Or.inl rfl | exact Or.inr rfl)) (pgs_cons (pg_name (i := 4) sc_Comparison_verdict.nd rfl (by first | exact Or.inl rfl | exact Or.inr rfl)) (pgs_cons (pg_name (i := 5) sc_Comparison_verdict.nd rfl (by first | exact Or.inl rfl | exact Or.inr rfl)) pgs_nil)))) (pss_cons (ps_asg (pe_meth (pv 0) W.C_Comparison W.m_Comparison_met (ok_Comparison_met W) (hr.mono (by decide)) W.b_Comparison_met .nil pass0 (pa_cons (pv 3) (pa_cons (pv 4) (pa_cons (pv 5) pa_nil)))) (pg_tup rfl (pgs_cons (pg_name (i := 6) sc_Comparison_verdict.nd rfl (by first | exact Or.inl rfl | exact Or.inr rfl)) (pgs_cons (pg_name (i := 7) sc_Comparison_verdict.nd rfl (by first | exact Or.inl rfl | exact Or.inr rfl)) pgs_nil))))
      (pss_cons (ps_if (pt_cmpR op_isnotU (pv 6) pe_non (by first | exact nomark _ | rfl)) (pss_one (ps_ret (pv 6))) pss_nil)
      (pss_one (ps_expr (pe_bm PySem.F.plainAttrs_list PySem.F.slot_list_extend PySem.F.type_list_extend mt_extend (pv 2) (pa_cons (pv 7) pa_nil)))))))
      (pss_one (ps_set (i := 1) sc_Comparison_verdict.nd rfl (by first | exact Or.inl rfl | exact Or.inr rfl) (pv 2))))))
      (pss_one (ps_ret (pe_tup (pa_cons (pe_strT (show (PySem.Str.ofString "alike") = T [97, 108, 105, 107, 101] by decide +kernel)) (pa_cons (pe_lock (pe_lc (own := [("number", 8)]) (g := gName 8) (tt := tYes) rfl sc_Comparison_verdict.nd (pi_keys (pe_fld (pv 0) rfl)) (blkOk_by (N := N_Comparison_verdict) (sc := defScope s_Comparison_verdict) (by first | decide +kernel | rfl)) (fun _ _ _ _ _ => (pg_name (i := 8) sc_Comparison_verdict.nd rfl (by first | exact Or.inl rfl | exact Or.inr rfl))) (fun _ _ _ _ _ => pts_nil) (fun _ _ _ _ _ => (pe_tup (pa_cons (pv 8) (pa_cons (pe_ix (ix_UK (K := K) rfl (by exact hu1)) (pe_fldK (K := K) rfl (pv 0) rfl) (pv 8) (fun _ _ => rfl)) pa_nil)))))) pa_nil))))))), ?_⟩
  refine z_start (σ := [some _, none, none, none, none, none, none, none, none]) rfl ?_
  one_sign
  have hco := S.co
  have V1 := V1'.keep f0
  have V2 := V2'.keep f0
  obtain ⟨hR59, hR26, hr17, hr25⟩ := V1.bds
  one_sign
  refine z_newL (by show 0 ≤ sizeLine; decide) fun pe H1 hpe f1 p1 => ?_
  have hco1 := f1.g0 hco
  have V1s := V1.keep f1
  obtain ⟨dxs1, st1, pr1, rt1, hd1, al1, cc1, dxa, fs1, x1, x2, x3, x4, x5, x6⟩ := V1s.objs
  one_sign
  refine (V1.keep f1).allr fun q1 H2 hq1 q12 f2 => ?_
  have hco2 := f2.g0 hco1
  have V2s := (V2.keep f1).keep f2
  obtain ⟨dxs2, st2, pr2, rt2, hd2, al2, cc2, dxb, fs2, y1, y2, y3, y4, y5, y6⟩ := V2s.objs
  one_sign
  refine ((V2.keep f1).keep f2).allr fun q2 H3 hq2 q23 f3 => ?_
  have f23 := f2.trans f3
  have f13 := f1.trans f23
  refine ⟨pe, q1, q2, [], r1, r2, rfl, f23.g0 p1, f3.g0 q12, q23, Nat.le_of_eq hl, by omega, by simp, fun wA Wl H4 hwA hW hI hQ f4 => ?_⟩
  have f14 := f13.trans f4
  one_sign
  rw [starts_kids] at hQ
  have q0 : QS R1 R2 r1 r2 (vdt R1 R2 r1 r2) (c3F []) (w3Q Wl) := by rw [hQ]; exact QS.start hl
  have hmu0 : mu R1 (c3F []) (w3Q Wl) ≤ 2000 := by
    rw [hQ]
    unfold mu starts
    rw [List.length_mapIdx]
    show (R1.length - 0) * 27 + _ ≤ _
    omega
  refine ⟨fun m σ H' => ∃ (wA : Addr) (Wl : List W3) (F : List C3) (v2 v3 v4 v5 v6 v7 : Option V), σ = [some (.ref co), some (.ref wA), v2, v3, v4, v5, v6, v7, none] ∧ Cmp H' W.c_Comparison co dx o1 o2 td bd fd F ∧ H' wA = some (.lst (w3L Wl)) ∧ W3I H' Wl ∧ QS R1 R2 r1 r2 (vdt R1 R2 r1 r2) (c3F F) (w3Q Wl) ∧ Fr [] H0 H' ∧ mu R1 (c3F F) (w3Q Wl) ≤ 2000 ∧ m = mu R1 (c3F F) (w3Q Wl),
    ⟨_, wA, Wl, [], _, _, _, _, _, _, rfl, S.keep f14, hW, hI, q0, f0.trans f14, hmu0, rfl⟩, ?_⟩
  clear hQ q0 f14 f4 f13 f23 hW hI
  rintro m σ H5 ⟨wA, Wl, F, v2, v3, v4, v5, v6, v7, rfl, S5, hW, hI, q5, f5, hmu5, rfl⟩
  have hco5 := S5.co
  have ht5 := S5.t
  one_sign
  by_cases hne : Wl = []
  · subst hne
    refine iteF ?_
    have hv := QS.nil q5
    one_sign
    have hF5 := q5.I.len
    have hF5' : (c3F F).length = F.length := List.length_map _
    have htl : (tD F).length = F.length := List.length_map _
    refine z_lcKH (fun od R h => z_fld (z_var0 (z_fld1 (fs := coF o1 o2 td bd fd) (dx := dx) (by rw [upd_ne (ne_of hco5 ht5 (by intro z; cases z))]; exact hco5) W.C_Comparison W.na_Comparison_there rfl h))) ht5 (fun i xs H' => ∃ A : List Addr, xs = A.map V.ref ∧ (∀ a ∈ A, a ≠ td) ∧ PrsAt H' A ((prs (c3F F)).take i)) (fun od HF R1 H' _ _ _ _ => ⟨[], rfl, fun a e => (by cases e), rfl, fun i a p e => (by cases e)⟩) (fun od HF L i kk v xs H6 fF hF hL hk hi hl hxs hL6 f6 => ?_) (fun L xs H6 H7 hL hxs hl hL7 f7 f57 => ?_)
    · obtain ⟨A, rfl, hA, hP⟩ := hxs
      have hk' := hk
      unfold tD at hk'
      rw [List.getElem?_map] at hk'
      obtain ⟨f, hf, ef⟩ := Option.map_eq_some_iff.mp hk'
      cases ef
      have hco6 := f6.g0 (fF.g hco5 (nin (ne_of hco5 ht5 (by intro z; cases z))))
      have hF6 := f6.g0 hF
      have nd := q5.I.n1
      have hv : valV (tD F) (.inl f.1) = some (.int f.2.1) := by
        rw [tD_val]
        cases e : lookN (c3F F) f.1 with
        | none => exact absurd (List.mem_map_of_mem (f := (·.1)) (List.mem_map_of_mem (f := fun f : C3 => (f.1, f.2.1, f.2.2.2)) (List.mem_of_getElem? hf))) (lookN_none e)
        | some g =>
          obtain ⟨g1, g2⟩ := lookN_some e
          have : g = (f.1, f.2.1, f.2.2.2) := inj_of_nodup nd g1 (List.mem_map_of_mem (f := fun f : C3 => (f.1, f.2.1, f.2.2.2)) (List.mem_of_getElem? hf)) g2
          rw [this]; rfl
      show gName 8 (V.int f.1) _ _ _
      leaf_len
      refine z_ixDf hF6 hv ?_
      one_sign
      refine z_newL (by show 2 ≤ sizeLine; decide) fun t H8 ht8 f8 t8 => ?_
      refine z_lcY hL (f8.g0 hL6) (f6.trans f8) hl (by rw [sizeLine_eq]; omega) fun H9 f9 _ _ => ?_
      have tp9 : TP H8 H9 := f9.tp1 (f8.g0 hL6) (by intro _ z; cases z)
      refine ⟨A ++ [t], by rw [List.map_append]; rfl, fun a ha => ?_, ?_⟩
      · rcases List.mem_append.mp ha with h | h
        · exact hA a h
        · rw [List.mem_singleton.mp h]
          exact fun z => by rw [z, hF6] at ht8; cases ht8
      · have he : (prs (c3F F))[i]? = some (f.1, f.2.1) := by
          unfold prs c3F
          rw [List.map_map, List.getElem?_map, hf]; rfl
        rw [List.take_succ, he]
        refine PrsAt.snoc (p := (f.1, f.2.1)) ⟨hP.1, fun i a p e1 e2 => tp9 _ _ (f8.g0 (hP.2 i a p e1 e2))⟩ (tp9 _ _ t8)
    · obtain ⟨A, rfl, hA, hP⟩ := hxs
      rw [List.take_of_length_le (by rw [htl]; unfold prs c3F; rw [List.length_map, List.length_map]; exact Nat.le_refl _)] at hP
      have hP7 : PrsAt H7 A (prs (c3F F)) := ⟨hP.1, fun i a p e1 e2 => f7.g (hP.2 i a p e1 e2) (nin (hA a (List.mem_of_getElem? e1)))⟩
      one_sign
      refine z_newL (by show 2 ≤ sizeLine; decide) fun t H8 ht8 f8 t8 => ?_
      exact k t H8 (by rw [hv]; exact ⟨L, A, t8, f8.g0 hL7, hP7.keep f8⟩) ((f5.trans f57).trans f8)
  have hne' : w3L Wl ≠ [] := fun e => hne (List.map_eq_nil_iff.mp e)
  refine iteNE hne' ?_
  refine ⟨_, fun _ _ z => z, ?_⟩
  one_sign
  refine z_newL (by show 0 ≤ sizeLine; decide) fun la H6 hla f6 l6 => ?_
  have hW6 := f6.g0 hW
  have nlw : la ≠ wA := (ne_of_none hW hla).symm
  have hla0 : H0 la = none := f5.none hla
  one_sign
  have hlW : (w3L Wl).length = Wl.length := List.length_map _
  refine for_list (K := K) (a := wA) (xs := w3L Wl) (fun j σ H' => ∃ (F' : List C3) (L : List W3) (v3 v4 v5 v6 v7 : Option V), σ = [some (.ref co), some (.ref wA), some (.ref la), v3, v4, v5, v6, v7, none] ∧ Cmp H' W.c_Comparison co dx o1 o2 td bd fd F' ∧ H' la = some (.lst (w3L L)) ∧ W3I H' L ∧ H' wA = some (.lst (w3L Wl)) ∧ W3I H' Wl ∧ QS R1 R2 r1 r2 (vdt R1 R2 r1 r2) (c3F F') (w3Q (Wl.drop j) ++ w3Q L) ∧ mu R1 (c3F F') (w3Q (Wl.drop j) ++ w3Q L) + j ≤ mu R1 (c3F F) (w3Q Wl) ∧ Fr [] H0 H' ∧ la ≠ td ∧ la ≠ bd ∧ la ≠ fd ∧ wA ≠ td ∧ wA ≠ bd ∧ wA ≠ fd)
    ⟨F, [], v3, v4, v5, v6, v7, rfl, S5.keep f6, l6, fun x hx => (by cases hx), hW6, hI.mono f6.tp, by rw [List.drop_zero]; show QS _ _ _ _ _ _ (w3Q Wl ++ []); rw [List.append_nil]; exact q5, by rw [List.drop_zero]; show mu _ _ (w3Q Wl ++ []) + 0 ≤ _; rw [List.append_nil]; exact Nat.le_refl _, f5.trans f6, (ne_of_none ht5 hla).symm, (ne_of_none S5.b hla).symm, (ne_of_none S5.f hla).symm, ne_of hW ht5 (by intro z; cases z), ne_of hW S5.b (by intro z; cases z), ne_of hW S5.f (by intro z; cases z)⟩ (fun j σ H' _ hI => ?_) (fun j x σ H7 hx hI => ?_) (fun σ H7 hI => ?_)
  · obtain ⟨F', L, v3, v4, v5, v6, v7, _, _, _, _, h, _⟩ := hI
    exact SqL.of h
  · obtain ⟨F', L, v3, v4, v5, v6, v7, rfl, S7, l7, hI7, hW7, hIW, q7, m7, f7, n1, n2, n3, n4, n5, n6⟩ := hI
    unfold w3L at hx
    rw [List.getElem?_map] at hx
    obtain ⟨y, hy, rfl⟩ := Option.map_eq_some_iff.mp hx
    obtain ⟨y1, y2⟩ := hIW y (List.mem_of_getElem? hy)
    rw [w3_cons hy] at q7 m7
    have hyl := q7.l _ List.mem_cons_self
    have hF7 := q7.I.len
    have hco7 := S7.co
    refine z_gtup y1 rfl ?_
    one_sign
    refine ⟨co, dx, o1, o2, td, bd, fd, F', R1, R2, r1, r2, y.2.1, H0, y.2.2.2.1, y.2.2.2.2, y.2.2.1, rfl, S7, f7, ⟨z1, z2, z3⟩, V1', V2', q7.I, y2, Nat.le_trans hyl (by omega), fun v ev t u l H8 t8 hv f8 => ?_, fun F'' more er t l W8 F8 H8 hF8 hQ8 t8 l8 hI8 S8 g8 f8 tp8 => ?_⟩
    · refine z_gtup t8 rfl ?_
      one_sign
      rw [q7.inl ev] at hv
      exact k u H8 hv (f7.trans f8)
    · refine z_gtup t8 rfl ?_
      obtain ⟨q8, m8, hm8⟩ := q7.inr hR26 hl er
      have lla := g8.g l7 (by simp only [List.mem_cons, List.not_mem_nil, or_false, not_or]; exact ⟨n1, n2, n3⟩)
      have wla := g8.g hW7 (by simp only [List.mem_cons, List.not_mem_nil, or_false, not_or]; exact ⟨n4, n5, n6⟩)
      one_sign
      have hL7 : L.length ≤ 2000 := by
        have h1 : (w3Q (Wl.drop (j + 1))).length + 1 + (w3Q L).length ≤ mu R1 (c3F F') ((y.2.2.1, y.2.2.2.1, y.2.2.2.2) :: w3Q (List.drop (j + 1) Wl) ++ w3Q L) := by
          unfold mu
          rw [List.length_append, List.length_cons]
          omega
        have h2 : (w3Q L).length = L.length := List.length_map _
        omega
      have hW8l : W8.length ≤ 26 := by rw [← hQ8] at hm8; unfold w3Q at hm8; rw [List.length_map] at hm8; exact hm8
      refine z_extend lla l8 (by unfold w3L; rw [List.length_map, List.length_map, sizeLine_eq]; omega) fun H9 f9 l9 n9 => ?_
      have tp9 : TP H8 H9 := f9.tp1 lla (by intro _ z; cases z)
      refine ⟨F8, L ++ W8, _, _, _, _, _, rfl, ⟨f9.g S8.co (nin (ne_of S8.co lla (by intro z; cases z))), f9.g S8.t (nin n1.symm), f9.g S8.b (nin n2.symm), f9.g S8.f (nin n3.symm), fun f hf => tp9 _ _ (S8.i f hf), S8.tb, S8.tf, S8.bf⟩, by rw [l9]; unfold w3L; rw [List.map_append], (hI7.mono (tp8.trans tp9)).app (hI8.mono tp9), f9.g wla (nin nlw.symm), hIW.mono (tp8.trans tp9), ?_, ?_, f8.in f9 hla0, n1, n2, n3, n4, n5, n6⟩
      · have : w3Q (L ++ W8) = w3Q L ++ more := by rw [← hQ8]; unfold w3Q; rw [List.map_append]
        rw [this, hF8, ← List.append_assoc]
        exact q8
      · have : w3Q (L ++ W8) = w3Q L ++ more := by rw [← hQ8]; unfold w3Q; rw [List.map_append]
        rw [this, hF8, ← List.append_assoc]
        have m8 : mu R1 F'' (w3Q (List.drop (j + 1) Wl) ++ w3Q L ++ more) + 1 ≤ mu R1 (c3F F') ((y.2.2.1, y.2.2.2.1, y.2.2.2.2) :: w3Q (List.drop (j + 1) Wl) ++ w3Q L) := m8
        omega
  · obtain ⟨F', L, v3, v4, v5, v6, v7, rfl, S7, l7, hI7, hW7, hIW, q7, m7, f7, n1, n2, n3, n4, n5, n6⟩ := hI
    rw [hlW, List.drop_length] at q7 m7
    have hpos : 0 < Wl.length := List.length_pos_iff.mpr hne
    one_sign
    exact ⟨mu R1 (c3F F') (w3Q L), by have : w3Q [] ++ w3Q L = w3Q L := rfl; rw [this] at m7; omega, la, L, F', _, _, _, _, _, _, rfl, S7, l7, hI7, q7, f7, by have : w3Q [] ++ w3Q L = w3Q L := rfl; rw [this] at m7; omega, rfl⟩
end

end LX
namespace LX
open PySem PySem.Spec PyProof.Rows L2 NdefX
set_option hygiene false in
local macro_rules | `(tactic| k_memK) => `(tactic| first | exact W.na_Comparison_one | exact W.na_Comparison_other | exact W.na_Comparison_there | exact W.na_Comparison_back | exact W.na_Comparison_first | exact W.na_Store_room | exact W.na_Store_entries | exact W.na_Store_words | exact W.na_Store__places | exact W.na_Store__least | exact W.na_Space_store | exact W.na_Space_pressure | exact W.na_Space_always | exact W.na_Space_allocations | exact W.na_Space_collections | exact W.na_Space__roots | exact W.na_Space__held | exact W.na_Space__saved)
set_option hygiene false in
local macro_rules | `(tactic| k_ownIn) => `(tactic| first | exact W.C_Comparison | exact W.C_Store | exact W.C_Space)
local macro_rules | `(tactic| none_booked) => `(tactic| first | assumption | (refine Fr.g0 (by assumption) ?_; none_booked))
local macro_rules | `(tactic| one_sign) => `(tactic| repeat (first
  | refine Stp.h ?_
  | ((with_reducible refine' z_fld1 ?k0 ?k1 ?k2 ?k3 ?_); (case k0 => none_booked); (case k1 => k_ownIn); (case k2 => k_memK); (case k3 => rfl))
  | ((with_reducible refine' z_meth1 ?k0 ?k1 ?_); (case k0 => none_booked); (case k1 => rfl))
  | ((with_reducible refine' z_bmL ?k0 ?_); (case k0 => none_booked))
  | ((with_reducible refine' z_lenL ?k0 ?_); (case k0 => none_booked))
  | ((with_reducible refine' z_lenT ?k0 ?_); (case k0 => none_booked))
  | ((with_reducible refine' z_lenD ?k0 ?_); (case k0 => none_booked))
  | ((with_reducible refine' z_truL ?k0 ?_); (case k0 => none_booked))
  | ((with_reducible refine' z_truD ?k0 ?_); (case k0 => none_booked))
  | ((with_reducible refine' z_truT ?k0 ?_); (case k0 => none_booked))
  | ((with_reducible refine' z_inDIP ?k0 ?_); (case k0 => none_booked))
  | ((with_reducible refine' z_inDIN ?k0 ?_); (case k0 => none_booked))
  | ((with_reducible refine' z_inDfP ?k0 ?_); (case k0 => none_booked))
  | ((with_reducible refine' z_inDfN ?k0 ?_); (case k0 => none_booked))
  | ((with_reducible refine' z_iList1 ?k0 ?_); (case k0 => none_booked))
  | ((with_reducible refine' z_isi0 ?k0 ?k1 ?k2 ?_); (case k0 => exact (ClsV.ty _)); (case k1 => exact (TyX.base (TyOf.lst (by none_booked)))); (case k2 => first | exact kt_list_int | exact kt_list_bool | exact kt_list_str | exact kt_list_list | exact kt_list_tuple | exact kt_list_dict))
  | ((with_reducible refine' z_rI ?k0 ?_); (case k0 => first | exact (by decide : (0 : Int) < _) | exact ⟨by decide, by decide⟩ | exact ⟨by decide, by decide, by decide⟩ | (show (0 : Int) < _; omega)))
  | ((with_reducible refine' z_mulI ?k0 ?_); (case k0 => first | exact Or.inr ⟨by decide, by decide⟩ | exact Or.inl ⟨by decide, by decide⟩ | exact Or.inl ⟨by omega, by omega⟩ | exact Or.inr ⟨by omega, by omega⟩))))
local macro_rules | `(tactic| leaf_len) => `(tactic| (simp only [wipe, List.map_cons, List.map_nil, List.set_cons_zero, List.set_cons_succ]; one_sign; refine z_ok rfl ?_; one_sign))
section
variable {P : Program} {w : World} {K : PySem.W.Frag} {mg : Str → Option Value} {base : Heap}
def sp_held (C CS PT : Addr) : Sp := fun vs H Q _ => ∃ sp R r, vs = [.ref sp] ∧ WV C CS PT H sp R r ∧ Q (.int ((r.length : Int) - 17)) H
theorem ok_Space_held (W : WT P K mg base) : FnOk P w K mg base CX0 1 W.f_Space_held W.fd_Space_held ["self"] (sp_held W.c_Store W.c_Space W.PT_Store_close_up) := by
  refine W.F_Space_held.ok sc_Space_held (fun vs H Q E h => by obtain ⟨sp, R, r, rfl, V, k⟩ := h; rfl) (fun cdv A outer s H vs Q E hr h => ?_)
  obtain ⟨sp, R, r, rfl, V, k⟩ := h
  have hu1 := hu_of hr
  have hu64 := hu64_of hr
  refine ⟨_, (pss_one (ps_ret (pe_callB call_lenU (by rfl) W.n_len bb_len (pa_cons (pe_fld (pv 0) rfl) pa_nil)))), ?_⟩
  refine z_start (σ := [some _]) rfl ?_
  one_sign
  obtain ⟨X, O, rs, hs, ⟨dxs, st, dx, wl, pl, pr, rt, hd, al, co, least, kvs, rfl, ss⟩, hO, h2, rfl⟩ := V
  have hsp := ss.S.sp
  one_sign
  refine z_lenL ss.S.hd ?_
  rw [List.length_map]
  have := ss.rl
  rw [show (((0 :: (rs ++ hs)).length : Nat) : Int) - 17 = (hs.length : Int) by rw [List.length_cons, List.length_append]; omega] at k
  exact k
def sp_compare (C CS PT : Addr) : Sp := fun vs H Q _ => ∃ o1 o2 R1 R2 r1 r2, vs = [.ref o1, .ref o2] ∧ WV C CS PT H o1 R1 r1 ∧ WV C CS PT H o2 R2 r2 ∧
  (∀ t H', VdAt H' t (vdt R1 R2 r1 r2) → Fr [] H H' → Q (.ref t) H')
theorem ok_compare (W : WT P K mg base) : FnOk P w K mg base CX0 6 W.f_compare W.fd_compare ["one", "other"] (sp_compare W.c_Store W.c_Space W.PT_Store_close_up) := by
  refine W.F_compare.ok sc_compare (fun vs H Q E h => by obtain ⟨o1, o2, R1, R2, r1, r2, rfl, V1, V2, k⟩ := h; rfl) (fun cdv A outer s H vs Q E hr h => ?_)
  obtain ⟨o1, o2, R1, R2, r1, r2, rfl, V1, V2, k⟩ := h
  have hu1 := hu_of hr
  have hu64 := hu64_of hr
  refine ⟨_, (pss_cons (ps_if (pt_cmpR (op_neU hu64) (pe_meth0 (pv 0) W.C_Space W.m_Space_held (ok_Space_held W) (hr.mono (by decide)) W.b_Space_held .nil pass0 ) (pe_meth0 (pv 1) W.C_Space W.m_Space_held (ok_Space_held W) (hr.mono (by decide)) W.b_Space_held .nil pass0 ) (by first | exact nomark _ | rfl)) (pss_one (ps_ret (pe_tup (pa_cons (pe_strT (show (PySem.Str.ofString "held") = T [104, 101, 108, 100] by decide +kernel)) pa_nil)))) pss_nil)
      (pss_one (ps_ret (pe_meth0 (pe_make W.M_Comparison (ok_Comparison___init__ W) (hr.mono (by decide)) rfl W.g_Comparison W.b_Comparison___init__ .nil pass0 (pa_cons (pv 0) (pa_cons (pv 1) pa_nil))) W.C_Comparison W.m_Comparison_verdict (ok_Comparison_verdict W) (hr.mono (by decide)) W.b_Comparison_verdict .nil pass0 )))), ?_⟩
  refine z_start (σ := [some _, some _]) rfl ?_
  one_sign
  obtain ⟨dxs1, st1, pr1, rt1, hd1, al1, cc1, dxa, fs1, x1, x2, x3, x4, x5, x6⟩ := V1.objs
  obtain ⟨dxs2, st2, pr2, rt2, hd2, al2, cc2, dxb, fs2, y1, y2, y3, y4, y5, y6⟩ := V2.objs
  one_sign
  refine ⟨o1, R1, r1, rfl, V1, ?_⟩
  one_sign
  refine ⟨o2, R2, r2, rfl, V2, ?_⟩
  one_sign
  refine iteND (fun h => ?_) (fun h => ?_)
  · one_sign
    refine z_newL (by show 1 ≤ sizeLine; decide) fun t H2 ht f2 t2 => ?_
    refine k t H2 ?_ f2
    unfold vdt
    rw [if_neg (by omega)]
    exact t2
  · one_sign
    intro co dx hco hdx ndx
    generalize hH1 : upd (upd H dx (.own co)) co (.ins W.c_Comparison dx []) = H1
    have e1 : H1 co = some (.ins W.c_Comparison dx []) := by rw [← hH1]; exact upd_same
    have f1 : Fr [] H H1 := by rw [← hH1]; exact (Fr.new hdx).skip hco
    refine ⟨co, dx, o1, o2, rfl, e1, fun H2 td bd fd f2 S n1 n2 n3 => ⟨rfl, ?_⟩⟩
    have f02 : Fr [] H H2 := f1.in f2 hco
    have hco2 := S.co
    one_sign
    exact ⟨co, dx, o1, o2, td, bd, fd, R1, R2, r1, r2, H, rfl, S, f02, ⟨f1.none n1, f1.none n2, f1.none n3⟩, V1, V2, by omega, k⟩
end

end LX
namespace LX
open PySem PySem.Spec PyProof.Rows L2 NdefX
set_option hygiene false in
local macro_rules | `(tactic| k_memK) => `(tactic| first | exact W.na_Comparison_one | exact W.na_Comparison_other | exact W.na_Comparison_there | exact W.na_Comparison_back | exact W.na_Comparison_first | exact W.na_Store_room | exact W.na_Store_entries | exact W.na_Store_words | exact W.na_Store__places | exact W.na_Store__least | exact W.na_Space_store | exact W.na_Space_pressure | exact W.na_Space_always | exact W.na_Space_allocations | exact W.na_Space_collections | exact W.na_Space__roots | exact W.na_Space__held | exact W.na_Space__saved)
set_option hygiene false in
local macro_rules | `(tactic| k_ownIn) => `(tactic| first | exact W.C_Comparison | exact W.C_Store | exact W.C_Space)
local macro_rules | `(tactic| none_booked) => `(tactic| first | assumption | (refine Fr.g0 (by assumption) ?_; none_booked))
local macro_rules | `(tactic| one_sign) => `(tactic| repeat (first
  | refine Stp.h ?_
  | ((with_reducible refine' z_fld1 ?k0 ?k1 ?k2 ?k3 ?_); (case k0 => none_booked); (case k1 => k_ownIn); (case k2 => k_memK); (case k3 => rfl))
  | ((with_reducible refine' z_meth1 ?k0 ?k1 ?_); (case k0 => none_booked); (case k1 => rfl))
  | ((with_reducible refine' z_bmL ?k0 ?_); (case k0 => none_booked))
  | ((with_reducible refine' z_lenL ?k0 ?_); (case k0 => none_booked))
  | ((with_reducible refine' z_lenT ?k0 ?_); (case k0 => none_booked))
  | ((with_reducible refine' z_lenD ?k0 ?_); (case k0 => none_booked))
  | ((with_reducible refine' z_truL ?k0 ?_); (case k0 => none_booked))
  | ((with_reducible refine' z_truD ?k0 ?_); (case k0 => none_booked))
  | ((with_reducible refine' z_truT ?k0 ?_); (case k0 => none_booked))
  | ((with_reducible refine' z_inDIP ?k0 ?_); (case k0 => none_booked))
  | ((with_reducible refine' z_inDIN ?k0 ?_); (case k0 => none_booked))
  | ((with_reducible refine' z_inDfP ?k0 ?_); (case k0 => none_booked))
  | ((with_reducible refine' z_inDfN ?k0 ?_); (case k0 => none_booked))
  | ((with_reducible refine' z_iList1 ?k0 ?_); (case k0 => none_booked))
  | ((with_reducible refine' z_isi0 ?k0 ?k1 ?k2 ?_); (case k0 => exact (ClsV.ty _)); (case k1 => exact (TyX.base (TyOf.lst (by none_booked)))); (case k2 => first | exact kt_list_int | exact kt_list_bool | exact kt_list_str | exact kt_list_list | exact kt_list_tuple | exact kt_list_dict))
  | ((with_reducible refine' z_rI ?k0 ?_); (case k0 => first | exact (by decide : (0 : Int) < _) | exact ⟨by decide, by decide⟩ | exact ⟨by decide, by decide, by decide⟩ | (show (0 : Int) < _; omega)))
  | ((with_reducible refine' z_mulI ?k0 ?_); (case k0 => first | exact Or.inr ⟨by decide, by decide⟩ | exact Or.inl ⟨by decide, by decide⟩ | exact Or.inl ⟨by omega, by omega⟩ | exact Or.inr ⟨by omega, by omega⟩))))
local macro_rules | `(tactic| leaf_len) => `(tactic| (simp only [wipe, List.map_cons, List.map_nil, List.set_cons_zero, List.set_cons_succ]; one_sign; refine z_ok rfl ?_; one_sign))
section
variable {C CS PT : Addr} {H H' : Hp} {sp : Addr} {R : List (List Int)} {r : List Int} {Q : VK} {E : XK}
theorem WV.wordat (h : WV C CS PT H sp R r) {pa : Addr} {p : List Int} (hp : H pa = some (.tup (p.map V.int))) (hl : p.length ≤ 1000) (k : ∀ H', Fr [] H H' → Q (optV (walkW R r p)) H') : sp_wordat C CS PT ([.ref sp, .ref pa] ++ []) H Q E := by
  obtain ⟨X, O, rs, hs, S, hO, h2, rfl⟩ := h
  exact ⟨sp, pa, X, O, rs, hs, R, p, rfl, S, hO, h2, hp, hl, k⟩
end
section
variable {P : Program} {w : World} {K : PySem.W.Frag} {mg : Str → Option Value} {base : Heap}
def sp_both (C CS PT : Addr) : Sp := fun vs H Q _ => ∃ o1 o2 R1 R2 r1 r2 pa p, vs = [.ref o1, .ref o2, .ref pa] ∧ WV C CS PT H o1 R1 r1 ∧ WV C CS PT H o2 R2 r2 ∧ H pa = some (.tup (p.map V.int)) ∧ p.length ≤ 1000 ∧
  ((walkW R1 r1 p = none ∨ walkW R2 r2 p = none) → ∀ H', Fr [] H H' → Q .non H') ∧
  (∀ a b, walkW R1 r1 p = some a → walkW R2 r2 p = some b → ∀ t H', H' t = some (.tup [.int a, .int b, optV (objN R1 a), optV (objN R2 b)]) → Fr [] H H' → Q (.ref t) H')
theorem ok_both_at (W : WT P K mg base) : FnOk P w K mg base CX0 5 W.f_both_at W.fd_both_at ["one", "other", "path"] (sp_both W.c_Store W.c_Space W.PT_Store_close_up) := by
  refine W.F_both_at.ok sc_both_at (fun vs H Q E h => by obtain ⟨o1, o2, R1, R2, r1, r2, pa, p, rfl, V1, V2, hpa, hp, k1, k2⟩ := h; rfl) (fun cdv A outer s H vs Q E hr h => ?_)
  obtain ⟨o1, o2, R1, R2, r1, r2, pa, p, rfl, V1, V2, hpa, hp, k1, k2⟩ := h
  have hu1 := hu_of hr
  have hu64 := hu64_of hr
  refine ⟨_, (pss_cons (ps_set (i := 3) sc_both_at.nd rfl (by first | exact Or.inl rfl | exact Or.inr rfl) (pe_call (ok_word_at W) (hr.mono (by decide)) rfl W.g_word_at W.F_word_at.kp W.b_word_at .nil pass0 (pa_cons (pv 0) (pa_cons (pv 2) pa_nil))))
      (pss_cons (ps_set (i := 4) sc_both_at.nd rfl (by first | exact Or.inl rfl | exact Or.inr rfl) (pe_call (ok_word_at W) (hr.mono (by decide)) rfl W.g_word_at W.F_word_at.kp W.b_word_at .nil pass0 (pa_cons (pv 1) (pa_cons (pv 2) pa_nil))))
      (pss_cons (ps_if (PW.pt (pw_or (pt_cmpR op_isU (pv 3) pe_non (by first | exact nomark _ | rfl)) (pw_or1 (pt_cmpR op_isU (pv 4) pe_non (by first | exact nomark _ | rfl))))) (pss_one (ps_ret pe_non)) pss_nil)
      (pss_one (ps_ret (pe_tup (pa_cons (pv 3) (pa_cons (pv 4) (pa_cons (pe_call (ok_object_of W) (hr.mono (by decide)) rfl W.g_object_of W.F_object_of.kp W.b_object_of .nil pass0 (pa_cons (pv 0) (pa_cons (pv 3) pa_nil))) (pa_cons (pe_call (ok_object_of W) (hr.mono (by decide)) rfl W.g_object_of W.F_object_of.kp W.b_object_of .nil pass0 (pa_cons (pv 1) (pa_cons (pv 4) pa_nil))) pa_nil)))))))))), ?_⟩
  refine z_start (σ := [some _, some _, some _, none, none]) rfl ?_
  one_sign
  one_sign
  refine V1.wordat hpa hp fun H1 f1 => ?_
  one_sign
  refine (V2.keep f1).wordat (f1.g0 hpa) hp fun H2 f2 => ?_
  have f12 := f1.trans f2
  cases e1 : walkW R1 r1 p with
  | none =>
    simp only [optV]
    one_sign
    exact k1 (.inl e1) H2 f12
  | some a =>
    cases e2 : walkW R2 r2 p with
    | none =>
      simp only [optV]
      one_sign
      exact k1 (.inr e2) H2 f12
    | some b =>
      simp only [optV]
      one_sign
      refine (V1.keep f12).obj ?_
      one_sign
      refine (V2.keep f12).obj ?_
      one_sign
      refine z_newL (by show 4 ≤ sizeLine; decide) fun t H3 ht f3 t3 => ?_
      exact k2 a b e1 e2 t H3 t3 (f12.trans f3)
def sp_jb (C CS PT : Addr) (v : List Int → Vd) : Sp := fun vs H Q _ => ∃ o1 o2 R1 R2 r1 r2 pa p, vs = [.ref o1, .ref o2, .ref pa] ∧ WV C CS PT H o1 R1 r1 ∧ WV C CS PT H o2 R2 r2 ∧ H pa = some (.tup (p.map V.int)) ∧ p.length ≤ 1000 ∧
  (∀ b H', (b = true ↔ Hold R1 R2 r1 r2 (v p)) → Fr [] H H' → Q (.bl b) H')
theorem ok_words_differ (W : WT P K mg base) : FnOk P w K mg base CX0 6 W.f_words_differ W.fd_words_differ ["one", "other", "path"] (sp_jb W.c_Store W.c_Space W.PT_Store_close_up .word) := by
  refine W.F_words_differ.ok sc_words_differ (fun vs H Q E h => by obtain ⟨o1, o2, R1, R2, r1, r2, pa, p, rfl, V1, V2, hpa, hp, k⟩ := h; rfl) (fun cdv A outer s H vs Q E hr h => ?_)
  obtain ⟨o1, o2, R1, R2, r1, r2, pa, p, rfl, V1, V2, hpa, hp, k⟩ := h
  have hu1 := hu_of hr
  have hu64 := hu64_of hr
  refine ⟨_, (pss_cons (ps_set (i := 3) sc_words_differ.nd rfl (by first | exact Or.inl rfl | exact Or.inr rfl) (pe_call (ok_both_at W) (hr.mono (by decide)) rfl W.g_both_at W.F_both_at.kp W.b_both_at .nil pass0 (pa_cons (pv 0) (pa_cons (pv 1) (pa_cons (pv 2) pa_nil)))))
      (pss_cons (ps_if (PW.pt (pw_or (pt_cmpR op_isU (pv 3) pe_non (by first | exact nomark _ | rfl)) (pw_or1 (PW.pt (pw_and (pt_cmpR op_isnotU (pe_ix (ix_U hu1) (pv 3) pe_int (fun _ _ => rfl)) pe_non (by first | exact nomark _ | rfl)) (pw_and1 (pt_cmpR op_isnotU (pe_ix (ix_U hu1) (pv 3) pe_int (fun _ _ => rfl)) pe_non (by first | exact nomark _ | rfl)))))))) (pss_one (ps_ret pe_bl)) pss_nil)
      (pss_one (ps_ret (pe_or (pe_cmpR op_isnotU (pe_ix (ix_U hu1) (pv 3) pe_int (fun _ _ => rfl)) pe_non (by first | exact nomark _ | rfl)) (pe_or (pe_cmpR op_isnotU (pe_ix (ix_U hu1) (pv 3) pe_int (fun _ _ => rfl)) pe_non (by first | exact nomark _ | rfl)) (pe_one (pe_cmpR (op_neU hu64) (pe_ix (ix_U hu1) (pv 3) pe_int (fun _ _ => rfl)) (pe_ix (ix_U hu1) (pv 3) pe_int (fun _ _ => rfl)) (by first | exact nomark _ | rfl))))))))), ?_⟩
  refine z_start (σ := [some _, some _, some _, none]) rfl ?_
  one_sign
  one_sign
  refine ⟨o1, o2, R1, R2, r1, r2, pa, p, rfl, V1, V2, hpa, hp, fun e H1 f1 => ?_, fun a b' e1 e2 t H1 t1 f1 => ?_⟩
  · one_sign
    exact k false H1 (iff_of_false (by simp) fun ⟨w1, w2, h1, h2, _⟩ => by rcases e with e | e <;> simp_all) f1
  · one_sign
    have hiff : ∀ b : Bool, (b = true ↔ (objN R1 a = none ∨ objN R2 b' = none) ∧ ((objN R1 a).isSome = true ∨ (objN R2 b').isSome = true ∨ a ≠ b')) → (b = true ↔ Hold R1 R2 r1 r2 (.word p)) := fun b hb => hb.trans ⟨fun h => ⟨a, b', e1, e2, h.1, h.2⟩, fun ⟨w1, w2, h1, h2, h3, h4⟩ => by rw [e1] at h1; rw [e2] at h2; cases h1; cases h2; exact ⟨h3, h4⟩⟩
    cases h1 : objN R1 a with
    | none =>
      cases h2 : objN R2 b' with
      | none =>
        rw [h1, h2] at t1 hiff
        simp only [optV] at t1
        iterate 8 (try (refine z_ixT t1 rfl ?_; one_sign))
        refine k _ H1 (hiff _ ?_) f1
        simp
      | some m =>
        rw [h1, h2] at t1 hiff
        simp only [optV] at t1
        iterate 8 (try (refine z_ixT t1 rfl ?_; one_sign))
        exact k _ H1 (hiff _ (by simp)) f1
    | some n =>
      cases h2 : objN R2 b' with
      | none =>
        rw [h1, h2] at t1 hiff
        simp only [optV] at t1
        iterate 8 (try (refine z_ixT t1 rfl ?_; one_sign))
        exact k _ H1 (hiff _ (by simp)) f1
      | some m =>
        rw [h1, h2] at t1 hiff
        simp only [optV] at t1
        iterate 8 (try (refine z_ixT t1 rfl ?_; one_sign))
        exact k _ H1 (hiff _ (by simp)) f1
theorem ok_sizes_differ (W : WT P K mg base) : FnOk P w K mg base CX0 6 W.f_sizes_differ W.fd_sizes_differ ["one", "other", "path"] (sp_jb W.c_Store W.c_Space W.PT_Store_close_up .size) := by
  refine W.F_sizes_differ.ok sc_sizes_differ (fun vs H Q E h => by obtain ⟨o1, o2, R1, R2, r1, r2, pa, p, rfl, V1, V2, hpa, hp, k⟩ := h; rfl) (fun cdv A outer s H vs Q E hr h => ?_)
  obtain ⟨o1, o2, R1, R2, r1, r2, pa, p, rfl, V1, V2, hpa, hp, k⟩ := h
  have hu1 := hu_of hr
  have hu64 := hu64_of hr
  refine ⟨_, (pss_cons (ps_set (i := 3) sc_sizes_differ.nd rfl (by first | exact Or.inl rfl | exact Or.inr rfl) (pe_call (ok_both_at W) (hr.mono (by decide)) rfl W.g_both_at W.F_both_at.kp W.b_both_at .nil pass0 (pa_cons (pv 0) (pa_cons (pv 1) (pa_cons (pv 2) pa_nil)))))
      (pss_cons (ps_if (PW.pt (pw_or (pt_cmpR op_isU (pv 3) pe_non (by first | exact nomark _ | rfl)) (pw_or (pt_cmpR op_isU (pe_ix (ix_U hu1) (pv 3) pe_int (fun _ _ => rfl)) pe_non (by first | exact nomark _ | rfl)) (pw_or1 (pt_cmpR op_isU (pe_ix (ix_U hu1) (pv 3) pe_int (fun _ _ => rfl)) pe_non (by first | exact nomark _ | rfl)))))) (pss_one (ps_ret pe_bl)) pss_nil)
      (pss_one (ps_ret (pe_cmpR (op_neU hu64) (pe_meth (pe_fld (pv 0) rfl) W.C_Store W.m_Store_size (ok_Store_size W) (hr.mono (by decide)) W.b_Store_size .nil pass0 (pa_cons (pe_ix (ix_U hu1) (pv 3) pe_int (fun _ _ => rfl)) pa_nil)) (pe_meth (pe_fld (pv 1) rfl) W.C_Store W.m_Store_size (ok_Store_size W) (hr.mono (by decide)) W.b_Store_size .nil pass0 (pa_cons (pe_ix (ix_U hu1) (pv 3) pe_int (fun _ _ => rfl)) pa_nil)) (by first | exact nomark _ | rfl)))))), ?_⟩
  refine z_start (σ := [some _, some _, some _, none]) rfl ?_
  one_sign
  one_sign
  refine ⟨o1, o2, R1, R2, r1, r2, pa, p, rfl, V1, V2, hpa, hp, fun e H1 f1 => ?_, fun a b' e1 e2 t H1 t1 f1 => ?_⟩
  · one_sign
    exact k false H1 (iff_of_false (by simp) fun ⟨w1, w2, n, m, h1, h2, _⟩ => by rcases e with e | e <;> simp_all) f1
  · one_sign
    have no : (objN R1 a = none ∨ objN R2 b' = none) → (false = true ↔ Hold R1 R2 r1 r2 (.size p)) := fun h => iff_of_false (by simp) fun ⟨w1, w2, n, m, h1, h2, h3, h4, _⟩ => by rw [e1] at h1; rw [e2] at h2; cases h1; cases h2; rcases h with h | h <;> simp_all
    cases h1 : objN R1 a with
    | none =>
      rw [h1] at t1
      simp only [optV] at t1
      iterate 8 (try (refine z_ixT t1 rfl ?_; one_sign))
      exact k _ H1 (no (.inl h1)) f1
    | some n =>
      cases h2 : objN R2 b' with
      | none =>
        rw [h1, h2] at t1
        simp only [optV] at t1
        iterate 8 (try (refine z_ixT t1 rfl ?_; one_sign))
        exact k _ H1 (no (.inr h2)) f1
      | some m =>
        obtain ⟨-, -, n0, n1⟩ := objN_ok h1
        obtain ⟨-, -, m0, m1⟩ := objN_ok h2
        rw [h1, h2] at t1
        simp only [optV] at t1
        have V1' := V1.keep f1
        have V2' := V2.keep f1
        obtain ⟨dxs1, st1, pr1, rt1, hd1, al1, co1, dx1, fs1, x1, x2, x3, x4, x5, x6⟩ := V1'.objs
        obtain ⟨dxs2, st2, pr2, rt2, hd2, al2, co2, dx2, fs2, y1, y2, y3, y4, y5, y6⟩ := V2'.objs
        iterate 8 (try (refine z_ixT t1 rfl ?_; one_sign))
        refine z_meth1 x2 x3 ?_
        one_sign
        refine z_ixT t1 rfl ?_
        one_sign
        refine x5 n0 n1 ?_
        one_sign
        refine z_meth1 y2 y3 ?_
        one_sign
        refine z_ixT t1 rfl ?_
        one_sign
        refine y5 m0 m1 ?_
        one_sign
        refine k _ H1 ?_ f1
        have : (!decide (((rowN R1 n).length : Int) - 1 = ((rowN R2 m).length : Int) - 1)) = true ↔ (rowN R1 n).length ≠ (rowN R2 m).length := by
          rw [Bool.not_eq_true', decide_eq_false_iff_not]
          exact not_congr (by omega)
        refine this.trans ⟨fun h => ⟨a, b', n, m, e1, e2, h1, h2, h⟩, fun ⟨w1, w2, n', m', g1, g2, g3, g4, g5⟩ => ?_⟩
        rw [e1] at g1; rw [e2] at g2; cases g1; cases g2
        rw [h1] at g3; rw [h2] at g4; cases g3; cases g4
        exact g5
def sp_share (C CS PT : Addr) : Sp := fun vs H Q _ => ∃ o1 o2 R1 R2 r1 r2 pa qa p q, vs = [.ref o1, .ref o2, .ref pa, .ref qa] ∧ WV C CS PT H o1 R1 r1 ∧ WV C CS PT H o2 R2 r2 ∧ H pa = some (.tup (p.map V.int)) ∧ p.length ≤ 1000 ∧ H qa = some (.tup (q.map V.int)) ∧ q.length ≤ 1000 ∧
  (∀ b H', (b = true ↔ Hold R1 R2 r1 r2 (.same p q)) → Fr [] H H' → Q (.bl b) H')
theorem ok_sharing_differs (W : WT P K mg base) : FnOk P w K mg base CX0 6 W.f_sharing_differs W.fd_sharing_differs ["one", "other", "path", "second"] (sp_share W.c_Store W.c_Space W.PT_Store_close_up) := by
  refine W.F_sharing_differs.ok sc_sharing_differs (fun vs H Q E h => by obtain ⟨o1, o2, R1, R2, r1, r2, pa, qa, p, q, rfl, V1, V2, hpa, hp, hqa, hq, k⟩ := h; rfl) (fun cdv A outer s H vs Q E hr h => ?_)
  obtain ⟨o1, o2, R1, R2, r1, r2, pa, qa, p, q, rfl, V1, V2, hpa, hp, hqa, hq, k⟩ := h
  have hu1 := hu_of hr
  have hu64 := hu64_of hr
  refine ⟨_, (pss_cons (ps_set (i := 4) sc_sharing_differs.nd rfl (by first | exact Or.inl rfl | exact Or.inr rfl) (pe_call (ok_both_at W) (hr.mono (by decide)) rfl W.g_both_at W.F_both_at.kp W.b_both_at .nil pass0 (pa_cons (pv 0) (pa_cons (pv 1) (pa_cons (pv 2) pa_nil)))))
      (pss_cons (ps_set (i := 5) sc_sharing_differs.nd rfl (by first | exact Or.inl rfl | exact Or.inr rfl) (pe_call (ok_both_at W) (hr.mono (by decide)) rfl W.g_both_at W.F_both_at.kp W.b_both_at .nil pass0 (pa_cons (pv 0) (pa_cons (pv 1) (pa_cons (pv 3) pa_nil)))))
      (pss_cons (ps_if (PW.pt (pw_or (pt_cmpR op_isU (pv 4) pe_non (by first | exact nomark _ | rfl)) (pw_or (pt_cmpR op_isU (pv 5) pe_non (by first | exact nomark _ | rfl)) (pw_or (pt_cmpR op_isU (pe_ix (ix_U hu1) (pv 4) pe_int (fun _ _ => rfl)) pe_non (by first | exact nomark _ | rfl)) (pw_or (pt_cmpR op_isU (pe_ix (ix_U hu1) (pv 4) pe_int (fun _ _ => rfl)) pe_non (by first | exact nomark _ | rfl)) (pw_or (pt_cmpR op_isU (pe_ix (ix_U hu1) (pv 5) pe_int (fun _ _ => rfl)) pe_non (by first | exact nomark _ | rfl)) (pw_or1 (pt_cmpR op_isU (pe_ix (ix_U hu1) (pv 5) pe_int (fun _ _ => rfl)) pe_non (by first | exact nomark _ | rfl))))))))) (pss_one (ps_ret pe_bl)) pss_nil)
      (pss_one (ps_ret (pe_cmpR (op_neU hu64) (pe_cmpR (op_eqU hu64) (pe_ix (ix_U hu1) (pv 4) pe_int (fun _ _ => rfl)) (pe_ix (ix_U hu1) (pv 5) pe_int (fun _ _ => rfl)) (by first | exact nomark _ | rfl)) (pe_cmpR (op_eqU hu64) (pe_ix (ix_U hu1) (pv 4) pe_int (fun _ _ => rfl)) (pe_ix (ix_U hu1) (pv 5) pe_int (fun _ _ => rfl)) (by first | exact nomark _ | rfl)) (by first | exact nomark _ | rfl))))))), ?_⟩
  refine z_start (σ := [some _, some _, some _, some _, none, none]) rfl ?_
  one_sign
  one_sign
  refine ⟨o1, o2, R1, R2, r1, r2, pa, p, rfl, V1, V2, hpa, hp, fun e H1 f1 => ?_, fun a b' e1 e2 t H1 t1 f1 => ?_⟩
  · one_sign
    have no : false = true ↔ Hold R1 R2 r1 r2 (.same p q) := iff_of_false (by simp) fun ⟨w1, w2, n, m, w1', w2', n', m', h1, h2, _⟩ => by rcases e with e | e <;> simp_all
    refine ⟨o1, o2, R1, R2, r1, r2, qa, q, rfl, V1.keep f1, V2.keep f1, f1.g0 hqa, hq, fun _ H2 f2 => ?_, fun _ _ _ _ t2 H2 t2' f2 => ?_⟩
    · one_sign
      exact k _ H2 no (f1.trans f2)
    · one_sign
      exact k _ H2 no (f1.trans f2)
  · one_sign
    refine ⟨o1, o2, R1, R2, r1, r2, qa, q, rfl, V1.keep f1, V2.keep f1, f1.g0 hqa, hq, fun e H2 f2 => ?_, fun c d e3 e4 t2 H2 t2' f2 => ?_⟩
    · one_sign
      exact k false H2 (iff_of_false (by simp) fun ⟨w1, w2, n, m, w1', w2', n', m', _, _, _, _, h1, h2, _⟩ => by rcases e with e | e <;> simp_all) (f1.trans f2)
    · one_sign
      have t1 := f2.g0 t1
      have f12 := f1.trans f2
      have no : (objN R1 a = none ∨ objN R2 b' = none ∨ objN R1 c = none ∨ objN R2 d = none) → (false = true ↔ Hold R1 R2 r1 r2 (.same p q)) := fun h => iff_of_false (by simp) fun ⟨w1, w2, n, m, w1', w2', n', m', h1, h2, h3, h4, h5, h6, h7, h8, _⟩ => by
        rw [e1] at h1; rw [e2] at h2; rw [e3] at h5; rw [e4] at h6; cases h1; cases h2; cases h5; cases h6
        rcases h with h | h | h | h <;> simp_all
      cases h1 : objN R1 a with
      | none =>
        rw [h1] at t1
        simp only [optV] at t1
        iterate 8 (try ((first | refine z_ixT t1 rfl ?_ | refine z_ixT t2' rfl ?_); one_sign))
        exact k _ H2 (no (.inl h1)) f12
      | some n =>
        cases h2 : objN R2 b' with
        | none =>
          rw [h1, h2] at t1
          simp only [optV] at t1
          iterate 8 (try ((first | refine z_ixT t1 rfl ?_ | refine z_ixT t2' rfl ?_); one_sign))
          exact k _ H2 (no (.inr (.inl h2))) f12
        | some m =>
          rw [h1, h2] at t1
          simp only [optV] at t1
          cases h3 : objN R1 c with
          | none =>
            rw [h3] at t2'
            simp only [optV] at t2'
            iterate 8 (try ((first | refine z_ixT t1 rfl ?_ | refine z_ixT t2' rfl ?_); one_sign))
            exact k _ H2 (no (.inr (.inr (.inl h3)))) f12
          | some n' =>
            cases h4 : objN R2 d with
            | none =>
              rw [h3, h4] at t2'
              simp only [optV] at t2'
              iterate 8 (try ((first | refine z_ixT t1 rfl ?_ | refine z_ixT t2' rfl ?_); one_sign))
              exact k _ H2 (no (.inr (.inr (.inr h4)))) f12
            | some m' =>
              rw [h3, h4] at t2'
              simp only [optV] at t2'
              iterate 8 (try ((first | refine z_ixT t1 rfl ?_ | refine z_ixT t2' rfl ?_); one_sign))
              refine ⟨by cases decide (n = n') <;> cases decide (m = m') <;> rfl, ?_⟩
              refine k _ H2 ?_ f12
              have : (!decide ((V.bl (decide (n = n'))) = V.bl (decide (m = m')))) = true ↔ ¬ (n = n' ↔ m = m') := by
                rw [Bool.not_eq_true', decide_eq_false_iff_not]
                refine not_congr ⟨fun h => ?_, fun h => ?_⟩
                · have h := V.bl.inj h
                  exact decide_eq_decide.mp h
                · exact congrArg _ (decide_eq_decide.mpr h)
              refine this.trans ⟨fun h => ⟨a, b', n, m, c, d, n', m', e1, e2, h1, h2, e3, e4, h3, h4, h⟩, fun ⟨w1, w2, x1, x2, w3, w4, x3, x4, g1, g2, g3, g4, g5, g6, g7, g8, g9⟩ => ?_⟩
              rw [e1] at g1; rw [e2] at g2; cases g1; cases g2
              rw [h1] at g3; rw [h2] at g4; cases g3; cases g4
              rw [e3] at g5; rw [e4] at g6; cases g5; cases g6
              rw [h3] at g7; rw [h4] at g8; cases g7; cases g8
              exact g9
end

end LX
namespace LX
open PySem PySem.Spec PyProof.Rows L2 NdefX
set_option hygiene false in
local macro_rules | `(tactic| k_memK) => `(tactic| first | exact W.na_Comparison_one | exact W.na_Comparison_other | exact W.na_Comparison_there | exact W.na_Comparison_back | exact W.na_Comparison_first | exact W.na_Store_room | exact W.na_Store_entries | exact W.na_Store_words | exact W.na_Store__places | exact W.na_Store__least | exact W.na_Space_store | exact W.na_Space_pressure | exact W.na_Space_always | exact W.na_Space_allocations | exact W.na_Space_collections | exact W.na_Space__roots | exact W.na_Space__held | exact W.na_Space__saved)
set_option hygiene false in
local macro_rules | `(tactic| k_ownIn) => `(tactic| first | exact W.C_Comparison | exact W.C_Store | exact W.C_Space)
local macro_rules | `(tactic| none_booked) => `(tactic| first | assumption | (refine Fr.g0 (by assumption) ?_; none_booked))
local macro_rules | `(tactic| one_sign) => `(tactic| repeat (first
  | refine Stp.h ?_
  | ((with_reducible refine' z_fld1 ?k0 ?k1 ?k2 ?k3 ?_); (case k0 => none_booked); (case k1 => k_ownIn); (case k2 => k_memK); (case k3 => rfl))
  | ((with_reducible refine' z_meth1 ?k0 ?k1 ?_); (case k0 => none_booked); (case k1 => rfl))
  | ((with_reducible refine' z_bmL ?k0 ?_); (case k0 => none_booked))
  | ((with_reducible refine' z_lenL ?k0 ?_); (case k0 => none_booked))
  | ((with_reducible refine' z_lenT ?k0 ?_); (case k0 => none_booked))
  | ((with_reducible refine' z_lenD ?k0 ?_); (case k0 => none_booked))
  | ((with_reducible refine' z_truL ?k0 ?_); (case k0 => none_booked))
  | ((with_reducible refine' z_truD ?k0 ?_); (case k0 => none_booked))
  | ((with_reducible refine' z_truT ?k0 ?_); (case k0 => none_booked))
  | ((with_reducible refine' z_inDIP ?k0 ?_); (case k0 => none_booked))
  | ((with_reducible refine' z_inDIN ?k0 ?_); (case k0 => none_booked))
  | ((with_reducible refine' z_inDfP ?k0 ?_); (case k0 => none_booked))
  | ((with_reducible refine' z_inDfN ?k0 ?_); (case k0 => none_booked))
  | ((with_reducible refine' z_iList1 ?k0 ?_); (case k0 => none_booked))
  | ((with_reducible refine' z_isi0 ?k0 ?k1 ?k2 ?_); (case k0 => exact (ClsV.ty _)); (case k1 => exact (TyX.base (TyOf.lst (by none_booked)))); (case k2 => first | exact kt_list_int | exact kt_list_bool | exact kt_list_str | exact kt_list_list | exact kt_list_tuple | exact kt_list_dict))
  | ((with_reducible refine' z_rI ?k0 ?_); (case k0 => first | exact (by decide : (0 : Int) < _) | exact ⟨by decide, by decide⟩ | exact ⟨by decide, by decide, by decide⟩ | (show (0 : Int) < _; omega)))
  | ((with_reducible refine' z_mulI ?k0 ?_); (case k0 => first | exact Or.inr ⟨by decide, by decide⟩ | exact Or.inl ⟨by decide, by decide⟩ | exact Or.inl ⟨by omega, by omega⟩ | exact Or.inr ⟨by omega, by omega⟩))))
local macro_rules | `(tactic| leaf_len) => `(tactic| (simp only [wipe, List.map_cons, List.map_nil, List.set_cons_zero, List.set_cons_succ]; one_sign; refine z_ok rfl ?_; one_sign))
theorem pg_tupK {X : Cx} {K : PySem.W.Frag} {es : List Expr} {k : Nat} {pos : Pos} {t : TGs} {n : Nat} (e : X.K = K) (hc : X.calm = true) (h : PGs X es t) (hn : (assignEach es X.env).length = n := by rfl) (hst : (assignEach es X.env).findIdx? (·.1) = none := by rfl) :
    PG X (.Tuple es k pos) (gTup K n t) := by subst e; exact pg_tup hc h hn hst
/-- a dict, locked or not -/
def DAt (H : Hp) (d : Addr) (kvs : List (Key × V)) : Prop := H d = some (.dK kvs) ∨ ∃ od, H d = some (.frz od (.dK kvs))
theorem DAt.keep {H H' : Hp} {d : Addr} {kvs : List (Key × V)} (h : DAt H d kvs) (f : Fr [] H H') : DAt H' d kvs := h.imp f.g0 fun ⟨od, e⟩ => ⟨od, f.g0 e⟩
theorem z_inXN {K : PySem.W.Frag} {H : Hp} {Q : VK} {p : Addr} {kvs : List (Key × V)} {n : Int} (h1 : DAt H p kvs) (h : Q (.bl (!(valV kvs (.inl n)).isSome)) H) : rInU K (!·) (.int n) (.ref p) H Q := by
  rcases h1 with h1 | ⟨od, h1⟩
  · exact z_inDIN h1 h
  · exact z_inDfN h1 h
theorem z_ixX {K : PySem.W.Frag} {H : Hp} {Q : VK} {p : Addr} {kvs : List (Key × V)} {n : Int} {v : V} (h1 : DAt H p kvs) (h2 : valV kvs (.inl n) = some v) (h : Q v H) : rIxU K (.ref p) (.int n) H Q := by
  rcases h1 with h1 | ⟨od, h1⟩
  · exact z_ixD h1 h2 h
  · exact z_ixDf h1 h2 h
/-- a dict of pairs of numbers -/
def dPs (ps : List (Int × Int)) : List (Key × V) := ps.map fun p => (.inl p.1, .int p.2)
theorem dPs_val (ps : List (Int × Int)) (n : Int) : valV (dPs ps) (.inl n) = (ps.find? fun p => decide (p.1 = n)).map fun p => V.int p.2 := by
  unfold valV dPs
  rw [List.find?_map]
  simp only [Option.map_map, Function.comp_def, dec_key]
theorem dPs_at {ps : List (Int × Int)} (nd : (ps.map (·.1)).Nodup) {n m : Int} : (n, m) ∈ ps ↔ valV (dPs ps) (.inl n) = some (.int m) := by
  rw [dPs_val]
  constructor
  · intro h
    obtain ⟨g, hg⟩ : ∃ g, ps.find? (fun p => decide (p.1 = n)) = some g := Option.isSome_iff_exists.mp (by rw [List.find?_isSome]; exact ⟨_, h, decide_eq_true rfl⟩)
    have h1 := List.mem_of_find?_eq_some hg
    have z := List.find?_some hg
    have h2 := of_decide_eq_true (p := g.1 = n) z
    rw [hg, inj_of_nodup nd h1 h h2]
    rfl
  · intro h
    obtain ⟨g, hg, e⟩ := Option.map_eq_some_iff.mp h
    have z := List.find?_some hg
    have h2 := of_decide_eq_true (p := g.1 = n) z
    cases V.int.inj e
    rw [← h2]
    exact List.mem_of_find?_eq_some hg
section
variable {P : Program} {w : World} {K : PySem.W.Frag} {mg : Str → Option Value} {base : Heap}
def sp_rowsm (C CS PT : Addr) : Sp := fun vs H Q _ => ∃ o1 o2 R1 R2 r1 r2 td ra rb ps, ∃ a b : List Int, vs = [.ref o1, .ref o2, .ref td, .ref ra, .ref rb] ∧ WV C CS PT H o1 R1 r1 ∧ WV C CS PT H o2 R2 r2 ∧ (ps.map (·.1)).Nodup ∧ H ra = some (.lst (a.map V.int)) ∧ H rb = some (.lst (b.map V.int)) ∧ DAt H td (dPs ps) ∧
  (∀ x, (x = true ↔ fitRows R1 R2 ps a b) → ∀ H', Fr [] H H' → Q (.bl x) H')
theorem ok_rows_match (W : WT P K mg base) : FnOk P w K mg base CX0 4 W.f_rows_match W.fd_rows_match ["one", "other", "there", "row", "match"] (sp_rowsm W.c_Store W.c_Space W.PT_Store_close_up) := by
  refine W.F_rows_match.ok sc_rows_match (fun vs H Q E h => by obtain ⟨o1, o2, R1, R2, r1, r2, td, ra, rb, ps, a, b, rfl, V1, V2, nd, hra, hrb, htd, k⟩ := h; rfl) (fun cdv A outer s H vs Q E hr h => ?_)
  obtain ⟨o1, o2, R1, R2, r1, r2, td, ra, rb, ps, a, b, rfl, V1, V2, nd, hra, hrb, htd, k⟩ := h
  have hu1 := hu_of hr
  have hu64 := hu64_of hr
  refine ⟨_, (pss_cons (ps_if (pt_cmpR (op_neU hu64) (pe_callB call_lenU (by rfl) W.n_len bb_len (pa_cons (pv 3) pa_nil)) (pe_callB call_lenU (by rfl) W.n_len bb_len (pa_cons (pv 4) pa_nil)) (by first | exact nomark _ | rfl)) (pss_one (ps_ret pe_bl)) pss_nil)
      (pss_cons (ps_for PassesOwn.never rfl (RZ.pi_zipA (by rfl) W.n_zip (pa_cons (pv 3) (pa_cons (pv 4) pa_nil))) (pg_tup rfl (pgs_cons (pg_name (i := 5) sc_rows_match.nd rfl (by first | exact Or.inl rfl | exact Or.inr rfl)) (pgs_cons (pg_name (i := 6) sc_rows_match.nd rfl (by first | exact Or.inl rfl | exact Or.inr rfl)) pgs_nil))) (pss_cons (ps_set (i := 7) sc_rows_match.nd rfl (by first | exact Or.inl rfl | exact Or.inr rfl) (pe_call (ok_object_of W) (hr.mono (by decide)) rfl W.g_object_of W.F_object_of.kp W.b_object_of .nil pass0 (pa_cons (pv 0) (pa_cons (pv 5) pa_nil))))
      (pss_cons (ps_set (i := 8) sc_rows_match.nd rfl (by first | exact Or.inl rfl | exact Or.inr rfl) (pe_call (ok_object_of W) (hr.mono (by decide)) rfl W.g_object_of W.F_object_of.kp W.b_object_of .nil pass0 (pa_cons (pv 1) (pa_cons (pv 6) pa_nil))))
      (pss_one (ps_if (PW.pt (pw_or (pt_cmpR op_isU (pv 7) pe_non (by first | exact nomark _ | rfl)) (pw_or1 (pt_cmpR op_isU (pv 8) pe_non (by first | exact nomark _ | rfl))))) (pss_one (ps_if (PW.pt (pw_or (pt_cmpR op_isnotU (pv 7) pe_non (by first | exact nomark _ | rfl)) (pw_or (pt_cmpR op_isnotU (pv 8) pe_non (by first | exact nomark _ | rfl)) (pw_or1 (pt_cmpR (op_neU hu64) (pv 5) (pv 6) (by first | exact nomark _ | rfl)))))) (pss_one (ps_ret pe_bl)) pss_nil)) (pss_one (ps_if (PW.pt (pw_or (pt_cmpR (op_ninU hu1) (pv 7) (pv 2) (by first | exact nomark _ | rfl)) (pw_or1 (pt_cmpR (op_neU hu64) (pe_ix (ix_U hu1) (pv 2) (pv 7) (fun _ _ => rfl)) (pv 8) (by first | exact nomark _ | rfl))))) (pss_one (ps_ret pe_bl)) pss_nil)))))))
      (pss_one (ps_ret pe_bl)))), ?_⟩
  refine z_start (σ := [some _, some _, some _, some _, some _, none, none, none, none]) rfl ?_
  one_sign
  refine iteND (fun h => ?_) (fun h => ?_)
  · one_sign
    exact k false (iff_of_false (by simp) fun h' => h (by rw [List.length_map, List.length_map, h'.1])) H Fr.rfl'
  have hl : a.length = b.length := by rw [List.length_map, List.length_map] at h; omega
  one_sign
  refine ⟨.ref ra, rfl, .ref rb, rfl, ra, rb, _, _, rfl, Or.inl ⟨SqL.of hra, SqL.of hrb, ?_⟩⟩
  refine RZ.for_zipL (by rw [List.length_map, List.length_map, hl]) (fun j σ H' => ∃ v5 v6 v7 v8 : Option V, σ = [some (.ref o1), some (.ref o2), some (.ref td), some (.ref ra), some (.ref rb), v5, v6, v7, v8] ∧ Fr [] H H' ∧ ∀ (i : Nat) (w v : Int), i < j → a[i]? = some w → b[i]? = some v → fitW R1 R2 ps w v) ⟨_, _, _, _, rfl, Fr.rfl', fun i w v hi => by omega⟩ (fun i σ H' ⟨_, _, _, _, _, f, _⟩ => ⟨SqL.of (f.g0 hra), SqL.of (f.g0 hrb)⟩) (fun j x y Tt σ H1 hx hy hP hT => ?_) (fun σ H1 hP => ?_)
  · obtain ⟨v5, v6, v7, v8, rfl, f1, hfit⟩ := hP
    rw [List.getElem?_map] at hx hy
    obtain ⟨wv, hwv, rfl⟩ := Option.map_eq_some_iff.mp hx
    obtain ⟨vv, hvv, rfl⟩ := Option.map_eq_some_iff.mp hy
    have f2 : Fr [] H (upd H1 Tt (.tup [.int wv, .int vv])) := f1.trans (Fr.new hT)
    have t2 : upd H1 Tt (.tup [.int wv, .int vv]) Tt = some (.tup [.int wv, .int vv]) := upd_same
    generalize upd H1 Tt (.tup [.int wv, .int vv]) = H2 at f2 t2
    have yes : fitW R1 R2 ps wv vv → ∀ (i : Nat) (w v : Int), i < j + 1 → a[i]? = some w → b[i]? = some v → fitW R1 R2 ps w v := fun hf i w v hi h1 h2 => by
      rcases Nat.lt_or_ge i j with hij | hij
      · exact hfit i w v hij h1 h2
      · obtain rfl : i = j := by omega
        rw [hwv] at h1; rw [hvv] at h2; cases h1; cases h2; exact hf
    have no : ¬ fitW R1 R2 ps wv vv → (false = true ↔ fitRows R1 R2 ps a b) := fun hf => iff_of_false (by simp) fun h' => hf (h'.2 j wv vv hwv hvv)
    refine z_gtup t2 rfl ?_
    one_sign
    refine (V1.keep f2).obj ?_
    one_sign
    refine (V2.keep f2).obj ?_
    cases e1 : objN R1 wv with
    | none =>
      cases e2 : objN R2 vv with
      | none =>
        simp only [optV]
        one_sign
        refine iteND (fun h => ?_) (fun h => ?_)
        · one_sign
          refine k false (no fun hf => ?_) H2 f2
          rcases hf with ⟨_, _, h3⟩ | ⟨n, m, h1, _⟩
          · exact h h3
          · rw [e1] at h1; cases h1
        · one_sign
          exact ⟨_, _, _, _, rfl, f2, yes (.inl ⟨e1, e2, h⟩)⟩
      | some m =>
        simp only [optV]
        one_sign
        refine k false (no fun hf => ?_) H2 f2
        rcases hf with ⟨_, h2, _⟩ | ⟨n, m, h1, _⟩
        · rw [e2] at h2; cases h2
        · rw [e1] at h1; cases h1
    | some n =>
      cases e2 : objN R2 vv with
      | none =>
        simp only [optV]
        one_sign
        refine k false (no fun hf => ?_) H2 f2
        rcases hf with ⟨h1, _⟩ | ⟨n, m, _, h2, _⟩
        · rw [e1] at h1; cases h1
        · rw [e2] at h2; cases h2
      | some m =>
        have D2 := htd.keep f2
        have key : fitW R1 R2 ps wv vv ↔ (n, m) ∈ ps := ⟨fun hf => by
          rcases hf with ⟨h1, _⟩ | ⟨n', m', h1, h2, h3⟩
          · rw [e1] at h1; cases h1
          · rw [e1] at h1; rw [e2] at h2; cases h1; cases h2; exact h3, fun h => .inr ⟨n, m, e1, e2, h⟩⟩
        rw [dPs_at nd] at key
        simp only [optV]
        one_sign
        refine z_inXN D2 ?_
        one_sign
        cases e : valV (dPs ps) (.inl n) with
        | none =>
          one_sign
          exact k false (no fun hf => by rw [key.mp hf] at e; cases e) H2 f2
        | some v =>
          obtain ⟨g, hg, ev⟩ := Option.map_eq_some_iff.mp ((dPs_val ps n).symm.trans e)
          have ev : V.int g.2 = v := ev
          subst ev
          one_sign
          refine z_ixX D2 e ?_
          one_sign
          refine iteND (fun h => ?_) (fun h => ?_)
          · one_sign
            exact k false (no fun hf => by have z := key.mp hf; rw [e] at z; exact h (V.int.inj (Option.some.inj z))) H2 f2
          · one_sign
            exact ⟨_, _, _, _, rfl, f2, yes (key.mpr (by rw [e, h]))⟩
  · obtain ⟨v5, v6, v7, v8, rfl, f1, hfit⟩ := hP
    one_sign
    refine k true (iff_of_true rfl ⟨hl, fun i w v h1 h2 => hfit i w v ?_ h1 h2⟩) H1 f1
    rw [List.length_map]
    exact (List.getElem?_eq_some_iff.mp h1).1
end

end LX
namespace LX
open PySem PySem.Spec PyProof.Rows L2 NdefX
/-- how long a dict or a set of so many pairs' keys is -/
def Cnt (l : List Int) (i n : Nat) : Prop := n ≤ i ∧ ((l.take i).Nodup → n = i) ∧ (¬ (l.take i).Nodup → n < i)
theorem nodup_snoc {α : Type} {l : List α} {a : α} : (l ++ [a]).Nodup ↔ l.Nodup ∧ a ∉ l := by
  constructor
  · intro h
    obtain ⟨h1, _, h3⟩ := List.nodup_append.mp h
    exact ⟨h1, fun m => h3 a m a (by simp) rfl⟩
  · rintro ⟨h1, h2⟩
    refine List.nodup_append.mpr ⟨h1, by simp, fun x hx y hy e => ?_⟩
    rw [List.mem_singleton] at hy
    subst hy e
    exact h2 hx
theorem Cnt.zero (l : List Int) : Cnt l 0 0 := ⟨Nat.le_refl _, fun _ => rfl, fun h => absurd (by simp) h⟩
theorem Cnt.in {l : List Int} {i n : Nat} {a : Int} (h : Cnt l i n) (ha : l[i]? = some a) (hm : a ∈ l.take i) : Cnt l (i + 1) n := by
  have e : l.take (i + 1) = l.take i ++ [a] := by rw [List.take_succ, ha]; rfl
  unfold Cnt
  rw [e, nodup_snoc]
  exact ⟨by have := h.1; omega, fun z => absurd hm z.2, fun _ => by have := h.1; omega⟩
theorem Cnt.out {l : List Int} {i n : Nat} {a : Int} (h : Cnt l i n) (ha : l[i]? = some a) (hm : a ∉ l.take i) : Cnt l (i + 1) (n + 1) := by
  have e : l.take (i + 1) = l.take i ++ [a] := by rw [List.take_succ, ha]; rfl
  unfold Cnt
  rw [e, nodup_snoc]
  refine ⟨by have := h.1; omega, fun z => by rw [h.2.1 z.1], fun z => ?_⟩
  have := h.2.2 fun q => z ⟨q, hm⟩
  omega
theorem Cnt.all {l : List Int} {n : Nat} (h : Cnt l l.length n) : n = l.length ↔ l.Nodup := by
  have h2 := h.2
  rw [List.take_length] at h2
  constructor
  · intro e
    by_cases hn : l.Nodup
    · exact hn
    · have := h2.2 hn; omega
  · exact h2.1
/-- the dict after i pairs -/
structure DcI (ps : List (Int × Int)) (i : Nat) (kvs : List (Key × V)) : Prop where
  c : Cnt (ps.map (·.1)) i kvs.length
  k : ∀ n : Int, (valV kvs (.inl n)).isSome = true ↔ n ∈ (ps.map (·.1)).take i
  e : ((ps.map (·.1)).take i).Nodup → kvs = dPs (ps.take i)
theorem putK_len {kvs : List (Key × V)} {k : Key} {v x : V} (h : valV kvs k = some x) : (putK kvs k v).length = kvs.length := by
  have : kvs.any (fun p => decide (p.1 = k)) = true := by
    unfold valV at h
    obtain ⟨g, hg, _⟩ := Option.map_eq_some_iff.mp h
    rw [List.any_eq_true]
    have z := List.find?_some hg
    exact ⟨g, List.mem_of_find?_eq_some hg, z⟩
  unfold putK
  first
    | (rw [if_pos this]; simp)
    | (simp only [this]; simp)
theorem DcI.step {ps : List (Int × Int)} {i : Nat} {kvs : List (Key × V)} {p : Int × Int} (h : DcI ps i kvs) (hp : ps[i]? = some p) : DcI ps (i + 1) (putK kvs (.inl p.1) (.int p.2)) := by
  have ha : (ps.map (·.1))[i]? = some p.1 := by rw [List.getElem?_map, hp]; rfl
  have e : (ps.map (·.1)).take (i + 1) = (ps.map (·.1)).take i ++ [p.1] := by rw [List.take_succ, ha]; rfl
  have hk : ∀ n : Int, (valV (putK kvs (.inl p.1) (.int p.2)) (.inl n)).isSome = true ↔ n ∈ (ps.map (·.1)).take (i + 1) := fun n => by
    rw [valV_put, e, List.mem_append, List.mem_singleton, ← h.k n]
    by_cases hn : n = p.1
    · rw [if_pos (by rw [hn])]; simp [hn]
    · rw [if_neg (fun z => hn (Sum.inl.inj z))]; simp [hn]
  cases hv : valV kvs (.inl p.1) with
  | some x =>
    have hm : p.1 ∈ (ps.map (·.1)).take i := (h.k p.1).mp (by rw [hv]; rfl)
    refine ⟨by rw [putK_len hv]; exact h.c.in ha hm, hk, fun nd => ?_⟩
    rw [e, nodup_snoc] at nd
    exact absurd hm nd.2
  | none =>
    have hm : p.1 ∉ (ps.map (·.1)).take i := fun z => by have := (h.k p.1).mpr z; rw [hv] at this; cases this
    rw [putK_n hv] at hk ⊢
    refine ⟨by rw [List.length_append]; exact h.c.out ha hm, hk, fun nd => ?_⟩
    rw [e, nodup_snoc] at nd
    rw [h.e nd.1, List.take_succ, hp]
    unfold dPs
    rw [List.map_append]; rfl
section
variable {K : PySem.W.Frag} {w : World} {x0 x1 x3 : Option V} {la : Addr} {A : List Addr} {ps : List (Int × Int)} {H : Hp} {Q : VK}
theorem pr_dict (hla : H la = some (.lst (A.map V.ref))) (hA : PrsAt H A ps) (hps : ps.length ≤ 1000) (k : ∀ D kvs H', DcI ps ps.length kvs → H D = none → H' D = some (.dK kvs) → Fr [] H H' → Q (.ref D) H') :
    tDc (iList K (tVar 2)) (gTup K 2 (gCons (gName 4) (gCons (gName 5) gNil))) tYes (tVar 4) (tVar 5) [4, 5] [x0, x1, some (.ref la), x3, none, none] H Q := by
  refine ⟨.ref la, rfl, la, rfl, ⟨_, SqL.of hla⟩, fun D hD => ⟨fun i m H' => m = ps.length - i ∧ i ≤ ps.length ∧ ∃ kvs, DcI ps i kvs ∧ H' D = some (.dK kvs) ∧ Fr [] H H', ⟨_, rfl, Nat.zero_le _, [], ⟨Cnt.zero _, fun n => by simp [valV], fun _ => rfl⟩, upd_same, Fr.new hD⟩, ?_⟩⟩
  rintro i m H' ⟨rfl, hi, kvs, hk, hD', f⟩
  by_cases hlt : i < ps.length
  · obtain ⟨a, ha⟩ : ∃ a, A[i]? = some a := ⟨_, List.getElem?_eq_getElem (by rw [hA.1]; exact hlt)⟩
    obtain ⟨p, hp⟩ : ∃ p, ps[i]? = some p := ⟨_, List.getElem?_eq_getElem hlt⟩
    have hx : (A.map V.ref)[i]? = some (.ref a) := by rw [List.getElem?_map, ha]; rfl
    refine .inr ⟨⟨_, _, SqL.of (f.g0 hla), hx⟩, fun H'' => ∃ kvs, DcI ps (i + 1) kvs ∧ H'' D = some (.dK kvs) ∧ Fr [] H H'', fun H'' p' => ⟨ps.length - (i + 1), by omega, rfl, hlt, p'⟩, fun x H'' y => ?_⟩
    obtain ⟨rfl, y⟩ := y
    have y := y _ (SqL.of (f.g0 hla))
    rw [hx] at y
    cases y
    refine z_gtup (f.g0 (hA.2 i a p ha hp)) rfl ?_
    refine ⟨_, _, rfl, _, _, rfl, rfl, rfl, ?_⟩
    refine ⟨_, rfl, _, rfl, kvs, .inl p.1, rfl, hD', by have := hk.c.1; rw [sizeLine_eq]; omega, _, hk.step hp, upd_same, f.in (Fr.at (by simp)) hD⟩
  · obtain rfl : i = ps.length := by omega
    exact .inl ⟨⟨_, SqL.of (f.g0 hla), by rw [List.length_map, hA.1]; exact Nat.le_refl _⟩, k D kvs H' hk hD hD' f⟩
theorem pr_set (hla : H la = some (.lst (A.map V.ref))) (hA : PrsAt H A ps) (hps : ps.length ≤ 1000) (k : ∀ n D S H', Cnt (ps.map (·.2)) ps.length n → H' D = some (SetO w D S n) → n ≤ 1000 → Fr [] H H' → Q (.int (n : Nat)) H') :
    tLenO w (tSg (fun D => SetO w D (fun _ => false) 0) (rSAdd w) (iList K (tVar 2)) (gTup K 2 (gCons (gName 4) (gCons (gName 5) gNil))) tYes (tVar 5) [4, 5]) [x0, x1, some (.ref la), x3, none, none] H Q := by
  refine ⟨.ref la, rfl, la, rfl, ⟨_, SqL.of hla⟩, fun D hD => ⟨fun i m H' => m = ps.length - i ∧ i ≤ ps.length ∧ ∃ S n, Cnt (ps.map (·.2)) i n ∧ (∀ x, S x = true ↔ x ∈ (ps.map (·.2)).take i) ∧ H' D = some (SetO w D S n) ∧ Fr [] H H', ⟨_, rfl, Nat.zero_le _, _, 0, Cnt.zero _, fun n => by simp, upd_same, Fr.new hD⟩, ?_⟩⟩
  rintro i m H' ⟨rfl, hi, S, n, hc, hS, hD', f⟩
  by_cases hlt : i < ps.length
  · obtain ⟨a, ha⟩ : ∃ a, A[i]? = some a := ⟨_, List.getElem?_eq_getElem (by rw [hA.1]; exact hlt)⟩
    obtain ⟨p, hp⟩ : ∃ p, ps[i]? = some p := ⟨_, List.getElem?_eq_getElem hlt⟩
    have hx : (A.map V.ref)[i]? = some (.ref a) := by rw [List.getElem?_map, ha]; rfl
    have hpm : (ps.map (·.2))[i]? = some p.2 := by rw [List.getElem?_map, hp]; rfl
    refine .inr ⟨⟨_, _, SqL.of (f.g0 hla), hx⟩, fun H'' => ∃ S n, Cnt (ps.map (·.2)) (i + 1) n ∧ (∀ x, S x = true ↔ x ∈ (ps.map (·.2)).take (i + 1)) ∧ H'' D = some (SetO w D S n) ∧ Fr [] H H'', fun H'' p' => ⟨ps.length - (i + 1), by omega, rfl, hlt, p'⟩, fun x H'' y => ?_⟩
    obtain ⟨rfl, y⟩ := y
    have y := y _ (SqL.of (f.g0 hla))
    rw [hx] at y
    cases y
    refine z_gtup (f.g0 (hA.2 i a p ha hp)) rfl ?_
    refine ⟨_, _, rfl, _, _, rfl, rfl, rfl, ?_⟩
    refine ⟨_, rfl, D, p.2, S, n, rfl, rfl, hD', by have := hc.1; unfold scanBound; omega, ?_⟩
    have e : (ps.map (·.2)).take (i + 1) = (ps.map (·.2)).take i ++ [p.2] := by rw [List.take_succ, hpm]; rfl
    refine ⟨_, _, ?_, fun x => ?_, upd_same, f.in (Fr.at (by simp)) hD⟩
    · by_cases hm : S p.2 = true
      · rw [if_pos hm]; exact hc.in hpm ((hS _).mp hm)
      · rw [if_neg hm]; exact hc.out hpm (fun z => hm ((hS _).mpr z))
    · rw [e, List.mem_append, List.mem_singleton, ← hS x, Bool.or_eq_true, decide_eq_true_eq]
  · obtain rfl : i = ps.length := by omega
    have hn : n ≤ 1000 := Nat.le_trans hc.1 hps
    exact .inl ⟨⟨_, SqL.of (f.g0 hla), by rw [List.length_map, hA.1]; exact Nat.le_refl _⟩, D, S, n, rfl, hD', by omega, k n D S H' hc hD' hn f⟩
end

end LX
namespace LX
open PySem PySem.Spec PyProof.Rows L2 NdefX
set_option hygiene false in
local macro_rules | `(tactic| k_memK) => `(tactic| first | exact W.na_Comparison_one | exact W.na_Comparison_other | exact W.na_Comparison_there | exact W.na_Comparison_back | exact W.na_Comparison_first | exact W.na_Store_room | exact W.na_Store_entries | exact W.na_Store_words | exact W.na_Store__places | exact W.na_Store__least | exact W.na_Space_store | exact W.na_Space_pressure | exact W.na_Space_always | exact W.na_Space_allocations | exact W.na_Space_collections | exact W.na_Space__roots | exact W.na_Space__held | exact W.na_Space__saved)
set_option hygiene false in
local macro_rules | `(tactic| k_ownIn) => `(tactic| first | exact W.C_Comparison | exact W.C_Store | exact W.C_Space)
local macro_rules | `(tactic| none_booked) => `(tactic| first | assumption | (refine Fr.g0 (by assumption) ?_; none_booked))
local macro_rules | `(tactic| one_sign) => `(tactic| repeat (first
  | refine Stp.h ?_
  | ((with_reducible refine' z_fld1 ?k0 ?k1 ?k2 ?k3 ?_); (case k0 => none_booked); (case k1 => k_ownIn); (case k2 => k_memK); (case k3 => rfl))
  | ((with_reducible refine' z_meth1 ?k0 ?k1 ?_); (case k0 => none_booked); (case k1 => rfl))
  | ((with_reducible refine' z_bmL ?k0 ?_); (case k0 => none_booked))
  | ((with_reducible refine' z_lenL ?k0 ?_); (case k0 => none_booked))
  | ((with_reducible refine' z_lenT ?k0 ?_); (case k0 => none_booked))
  | ((with_reducible refine' z_lenD ?k0 ?_); (case k0 => none_booked))
  | ((with_reducible refine' z_truL ?k0 ?_); (case k0 => none_booked))
  | ((with_reducible refine' z_truD ?k0 ?_); (case k0 => none_booked))
  | ((with_reducible refine' z_truT ?k0 ?_); (case k0 => none_booked))
  | ((with_reducible refine' z_inDIP ?k0 ?_); (case k0 => none_booked))
  | ((with_reducible refine' z_inDIN ?k0 ?_); (case k0 => none_booked))
  | ((with_reducible refine' z_inDfP ?k0 ?_); (case k0 => none_booked))
  | ((with_reducible refine' z_inDfN ?k0 ?_); (case k0 => none_booked))
  | ((with_reducible refine' z_iList1 ?k0 ?_); (case k0 => none_booked))
  | ((with_reducible refine' z_isi0 ?k0 ?k1 ?k2 ?_); (case k0 => exact (ClsV.ty _)); (case k1 => exact (TyX.base (TyOf.lst (by none_booked)))); (case k2 => first | exact kt_list_int | exact kt_list_bool | exact kt_list_str | exact kt_list_list | exact kt_list_tuple | exact kt_list_dict))
  | ((with_reducible refine' z_rI ?k0 ?_); (case k0 => first | exact (by decide : (0 : Int) < _) | exact ⟨by decide, by decide⟩ | exact ⟨by decide, by decide, by decide⟩ | (show (0 : Int) < _; omega)))
  | ((with_reducible refine' z_mulI ?k0 ?_); (case k0 => first | exact Or.inr ⟨by decide, by decide⟩ | exact Or.inl ⟨by decide, by decide⟩ | exact Or.inl ⟨by omega, by omega⟩ | exact Or.inr ⟨by omega, by omega⟩))))
local macro_rules | `(tactic| leaf_len) => `(tactic| (simp only [wipe, List.map_cons, List.map_nil, List.set_cons_zero, List.set_cons_succ]; one_sign; refine z_ok rfl ?_; one_sign))
section
variable {P : Program} {w : World} {K : PySem.W.Frag} {mg : Str → Option Value} {base : Heap}
def sp_pairs (C CS PT : Addr) : Sp := fun vs H Q _ => ∃ o1 o2 R1 R2 r1 r2 la A ps, vs = [.ref o1, .ref o2, .ref la] ∧ WV C CS PT H o1 R1 r1 ∧ WV C CS PT H o2 R2 r2 ∧ H la = some (.lst (A.map V.ref)) ∧ PrsAt H A ps ∧ ps.length ≤ 1000 ∧
  (∀ x, (x = true ↔ PairsP R1 R2 r1 r2 ps) → ∀ H', Fr [] H H' → Q (.bl x) H')
theorem ok_pairs_match (W : WT P K mg base) : FnOk P w K mg base CX0 5 W.f_pairs_match W.fd_pairs_match ["one", "other", "pairs"] (sp_pairs W.c_Store W.c_Space W.PT_Store_close_up) := by
  refine W.F_pairs_match.ok sc_pairs_match (fun vs H Q E h => by obtain ⟨o1, o2, R1, R2, r1, r2, la, A, ps, rfl, V1, V2, hla, hA, hps, k⟩ := h; rfl) (fun cdv A outer s H vs Q E hr h => ?_)
  obtain ⟨o1, o2, R1, R2, r1, r2, la, A, ps, rfl, V1, V2, hla, hA, hps, k⟩ := h
  have hu1 := hu_of hr
  have hu64 := hu64_of hr
  refine ⟨_, (pss_cons (ps_set (i := 3) sc_pairs_match.nd rfl (by first | exact Or.inl rfl | exact Or.inr rfl) (pe_dc (own := [("number", 4), ("match", 5)]) (g := gTup K 2 (gCons (gName 4) (gCons (gName 5) gNil))) (tt := tYes) rfl sc_pairs_match.nd (pi_list (pv 2)) (blkOk_by (N := N_pairs_match) (sc := defScope s_pairs_match) (by decide +kernel)) (fun _ _ _ _ _ => (pg_tupK (K := K) rfl rfl (pgs_cons (pg_name (i := 4) sc_pairs_match.nd rfl (by first | exact Or.inl rfl | exact Or.inr rfl)) (pgs_cons (pg_name (i := 5) sc_pairs_match.nd rfl (by first | exact Or.inl rfl | exact Or.inr rfl)) pgs_nil)))) (fun _ _ _ _ _ => pts_nil) (fun _ _ _ _ _ => (pv 4)) (fun _ _ _ _ _ => (pv 5))))
      (pss_cons (ps_if (PW.pt (pw_or (pt_cmpR (op_neU hu64) (pe_callB call_lenU (by rfl) W.n_len bb_len (pa_cons (pv 3) pa_nil)) (pe_callB call_lenU (by rfl) W.n_len bb_len (pa_cons (pv 2) pa_nil)) (by first | exact nomark _ | rfl)) (pw_or1 (pt_cmpR (op_neU hu64) (pe_lenO (by rfl) W.n_len (pe_sg (own := [("number", 4), ("match", 5)]) (g := gTup K 2 (gCons (gName 4) (gCons (gName 5) gNil))) (tt := tYes) (intKd _) rfl sc_pairs_match.nd (pi_list (pv 2)) (blkOk_by (N := N_pairs_match) (sc := defScope s_pairs_match) (by decide +kernel)) (fun _ _ _ _ _ => (pg_tupK (K := K) rfl rfl (pgs_cons (pg_name (i := 4) sc_pairs_match.nd rfl (by first | exact Or.inl rfl | exact Or.inr rfl)) (pgs_cons (pg_name (i := 5) sc_pairs_match.nd rfl (by first | exact Or.inl rfl | exact Or.inr rfl)) pgs_nil)))) (fun _ _ _ _ _ => pts_nil) (fun _ _ _ _ _ => (pv 5)))) (pe_callB call_lenU (by rfl) W.n_len bb_len (pa_cons (pv 2) pa_nil)) (by first | exact nomark _ | rfl))))) (pss_one (ps_ret pe_bl)) pss_nil)
      (pss_cons (ps_if (pt_not (pt_truth (pe_callB (cr_all rfl) (by rfl) W.n_all bb_all (pa_cons (pe_lc (own := [("number", 4), ("match", 5)]) (g := gTup K 2 (gCons (gName 4) (gCons (gName 5) gNil))) (tt := tYes) rfl sc_pairs_match.nd (pi_list (pv 2)) (blkOk_by (N := N_pairs_match) (sc := defScope s_pairs_match) (by first | decide +kernel | rfl)) (fun _ _ _ _ _ => (pg_tupK (K := K) rfl rfl (pgs_cons (pg_name (i := 4) sc_pairs_match.nd rfl (by first | exact Or.inl rfl | exact Or.inr rfl)) (pgs_cons (pg_name (i := 5) sc_pairs_match.nd rfl (by first | exact Or.inl rfl | exact Or.inr rfl)) pgs_nil)))) (fun _ _ _ _ _ => pts_nil) (fun _ _ _ _ _ => (pe_and (pe_meth (pe_fldK (K := K) rfl (pv 0) rfl) W.C_Store W.m_Store_exists (ok_Store_exists W) (hr.mono (by decide)) W.b_Store_exists .nil pass0 (pa_cons (pv 4) pa_nil)) (pe_one (pe_meth (pe_fldK (K := K) rfl (pv 1) rfl) W.C_Store W.m_Store_exists (ok_Store_exists W) (hr.mono (by decide)) W.b_Store_exists .nil pass0 (pa_cons (pv 5) pa_nil)))))) pa_nil)) (by intro _; rfl))) (pss_one (ps_ret pe_bl)) pss_nil)
      (pss_cons (ps_if (pt_not (pt_truth (pe_call (ok_rows_match W) (hr.mono (by decide)) rfl W.g_rows_match W.F_rows_match.kp W.b_rows_match .nil pass0 (pa_cons (pv 0) (pa_cons (pv 1) (pa_cons (pv 3) (pa_cons (pe_meth0 (pv 0) W.C_Space W.m_Space_all_roots (ok_Space_all_roots W) (hr.mono (by decide)) W.b_Space_all_roots .nil pass0 ) (pa_cons (pe_meth0 (pv 1) W.C_Space W.m_Space_all_roots (ok_Space_all_roots W) (hr.mono (by decide)) W.b_Space_all_roots .nil pass0 ) pa_nil)))))) (by intro _; rfl))) (pss_one (ps_ret pe_bl)) pss_nil)
      (pss_one (ps_ret (pe_callB (cr_all rfl) (by rfl) W.n_all bb_all (pa_cons (pe_lock (pe_lc (own := [("number", 4)]) (g := gName 4) (tt := tYes) rfl sc_pairs_match.nd (pi_keys (pv 3)) (blkOk_by (N := N_pairs_match) (sc := defScope s_pairs_match) (by first | decide +kernel | rfl)) (fun _ _ _ _ _ => (pg_name (i := 4) sc_pairs_match.nd rfl (by first | exact Or.inl rfl | exact Or.inr rfl))) (fun _ _ _ _ _ => pts_nil) (fun _ _ _ _ _ => (pe_call (ok_rows_match W) (hr.mono (by decide)) rfl W.g_rows_match W.F_rows_match.kp W.b_rows_match .nil pass0 (pa_cons (pv 0) (pa_cons (pv 1) (pa_cons (pv 3) (pa_cons (pe_call (ok_row_of W) (hr.mono (by decide)) rfl W.g_row_of W.F_row_of.kp W.b_row_of .nil pass0 (pa_cons (pv 0) (pa_cons (pv 4) pa_nil))) (pa_cons (pe_call (ok_row_of W) (hr.mono (by decide)) rfl W.g_row_of W.F_row_of.kp W.b_row_of .nil pass0 (pa_cons (pv 1) (pa_cons (pe_ix (ix_UK (K := K) rfl (by exact hu1)) (pv 3) (pv 4) (fun _ _ => rfl)) pa_nil))) pa_nil))))))))) pa_nil)))))))), ?_⟩
  refine z_start (σ := [some _, some _, some _, none, none, none]) rfl ?_
  one_sign
  one_sign
  refine pr_dict hla hA hps fun D kvs H1 hk hD D1 f1 => ?_
  have hla1 := f1.g0 hla
  have hAl : (A.map V.ref).length = ps.length := by rw [List.length_map, hA.1]
  have hcA := Cnt.all (l := ps.map (·.1)) (n := kvs.length) (by rw [List.length_map]; exact hk.c)
  rw [List.length_map] at hcA
  one_sign
  refine iteND (fun h => ?_) (fun h => ?_)
  · one_sign
    refine k false (iff_of_false (by simp) fun hp => h ?_) H1 f1
    rw [hAl, hcA.mpr hp.n1]
  rw [hAl] at h
  have nd1 : (ps.map (·.1)).Nodup := hcA.mp (by omega)
  obtain rfl : kvs = dPs ps := by
    have := hk.e (by rw [List.take_of_length_le (by rw [List.length_map]; exact Nat.le_refl _)]; exact nd1)
    rw [List.take_length] at this
    exact this
  one_sign
  refine pr_set hla1 (hA.keep f1) hps fun n D2 S2 H2 hc2 D2' hn2 f2 => ?_
  have f12 := f1.trans f2
  have hla2 := f2.g0 hla1
  have D12 := f2.g0 D1
  have hcB := Cnt.all (l := ps.map (·.2)) (n := n) (by rw [List.length_map]; exact hc2)
  rw [List.length_map] at hcB
  one_sign
  refine iteND (fun h => ?_) (fun h => ?_)
  · one_sign
    refine k false (iff_of_false (by simp) fun hp => h ?_) H2 f12
    rw [hAl, hcB.mpr hp.n2]
  rw [hAl] at h
  have nd2 : (ps.map (·.2)).Nodup := hcB.mp (by omega)
  one_sign
  let okB : Int × Int → Bool := fun p => decide (0 ≤ p.1 ∧ p.1 < R1.length) && decide (0 ≤ p.2 ∧ p.2 < R2.length)
  refine z_lcL hla2 (fun i xs H' => xs = (ps.take i).map fun p => V.bl (okB p)) (fun _ _ _ _ => rfl) (fun L i x xs H3 hL hi hil hxl hP hX f3 => ?_) (fun L xs H3 hL hP hxl hX f3 => ?_)
  · obtain ⟨a, ha, rfl⟩ := Option.map_eq_some_iff.mp ((List.getElem?_map (f := V.ref)).symm.trans hi)
    have hip : i < ps.length := by rw [hAl] at hil; exact hil
    obtain ⟨p, hp⟩ : ∃ p, ps[i]? = some p := ⟨_, List.getElem?_eq_getElem hip⟩
    have f03 := f12.trans f3
    obtain ⟨dxs1, st1, pr1, rt1, hd1, al1, co1, dx1, fs1, x1, x2, x3, x4, x5, x6⟩ := (V1.keep f03).objs
    obtain ⟨dxs2, st2, pr2, rt2, hd2, al2, co2, dx2, fs2, y1, y2, y3, y4, y5, y6⟩ := (V2.keep f03).objs
    have fin : ∀ v, v = V.bl (okB p) → LcY H2 L (fun i xs H' => xs = (ps.take i).map fun p => V.bl (okB p)) (i + 1) v H3 := fun v hv =>
      z_lcY hL hX f3 hxl (by rw [sizeLine_eq]; omega) fun H5 _ _ _ => by
        show _ = _
        rw [hP, List.take_succ, hp, List.map_append, hv]
        rfl
    refine z_gtup (f03.g0 (hA.2 i a p ha hp)) rfl ?_
    leaf_len
    refine z_meth1 x2 x4 ?_
    one_sign
    refine x6 ?_
    one_sign
    by_cases h1 : 0 ≤ p.1 ∧ p.1 < R1.length
    · rw [decide_eq_true h1]
      refine iteT ?_
      one_sign
      refine z_meth1 y2 y4 ?_
      one_sign
      refine y6 (fin _ ?_)
      show _ = V.bl (decide _ && decide _)
      rw [decide_eq_true h1, Bool.true_and]
    · rw [decide_eq_false h1]
      refine iteF (fin _ ?_)
      show _ = V.bl (decide _ && decide _)
      rw [decide_eq_false h1, Bool.false_and]
  have f03 := f12.trans f3
  rw [hAl, List.take_length] at hP
  subst hP
  one_sign
  refine ⟨L, ps.map okB, rfl, SqL.of (by rw [hX, List.map_map]; rfl), ?_⟩
  one_sign
  cases hall : (ps.map okB).all id with
  | false =>
    refine iteT ?_
    one_sign
    refine k false (iff_of_false (by simp) fun hp => ?_) H3 f03
    have : (ps.map okB).all id = true := by
      rw [List.all_map, List.all_eq_true]
      intro p hpm
      have z := hp.ok p hpm
      show (decide _ && decide _) = true
      rw [decide_eq_true ⟨z.1, z.2.1⟩, decide_eq_true ⟨z.2.2.1, z.2.2.2⟩]; rfl
    rw [hall] at this
    cases this
  | true =>
    have hok : ∀ p ∈ ps, 0 ≤ p.1 ∧ p.1 < R1.length ∧ 0 ≤ p.2 ∧ p.2 < R2.length := fun p hpm => by
      rw [List.all_map, List.all_eq_true] at hall
      have z : (decide _ && decide _) = true := hall p hpm
      rw [Bool.and_eq_true, decide_eq_true_eq, decide_eq_true_eq] at z
      exact ⟨z.1.1, z.1.2, z.2.1, z.2.2⟩
    refine iteF ?_
    have V13 := V1.keep f03
    have V23 := V2.keep f03
    obtain ⟨dxs1, st1, pr1, rt1, hd1, al1, co1, dx1, fs1, x1, x2, x3, x4, x5, x6⟩ := V13.objs
    one_sign
    refine V13.allr fun q1 H4 hq1 q14 f4 => ?_
    obtain ⟨dxs2, st2, pr2, rt2, hd2, al2, co2, dx2, fs2, y1, y2, y3, y4, y5, y6⟩ := (V23.keep f4).objs
    one_sign
    refine (V23.keep f4).allr fun q2 H5 hq2 q25 f5 => ?_
    have f35 := f4.trans f5
    have f05 := f03.trans f35
    have D5 := f35.g0 (f3.g0 D12)
    one_sign
    refine ⟨o1, o2, R1, R2, r1, r2, D, q1, q2, ps, r1, r2, rfl, V1.keep f05, V2.keep f05, nd1, f5.g0 q14, q25, .inl D5, fun b hb H6 f6 => ?_⟩
    have f06 := f05.trans f6
    have D6 := f6.g0 D5
    one_sign
    cases b with
    | false =>
      refine iteT ?_
      one_sign
      exact k false (iff_of_false (by simp) fun hp => by have := hb.mpr hp.rt; cases this) H6 f06
    | true =>
      refine iteF ?_
      have hrt := hb.mp rfl
      one_sign
      refine z_lcK (td := tVar 3) (fun H' R h => ⟨_, rfl, h⟩) D6 (fun i xs H' => ∃ bs : List Bool, xs = bs.map V.bl ∧ bs.length = i ∧ ∀ (j : Nat) b p, bs[j]? = some b → ps[j]? = some p → (b = true ↔ fitRows R1 R2 ps (rowN R1 p.1) (rowN R2 p.2))) (fun od HF R1 H' _ _ _ _ => ⟨[], rfl, rfl, fun j b p e => (by cases e)⟩) (fun od HF L2 i kk v xs H7 fF hF hL2 hk2 hi hl hxs hL7 f7 => ?_) (fun L2 xs H7 H8 hL2 hxs hl hL8 f8 f68 => ?_)
      · obtain ⟨bs, rfl, hbl, hbs⟩ := hxs
        have hk2' := hk2
        unfold dPs at hk2'
        rw [List.getElem?_map] at hk2'
        obtain ⟨p, hp, ep⟩ := Option.map_eq_some_iff.mp hk2'
        cases ep
        have hpm := List.mem_of_getElem? hp
        have z := hok p hpm
        have fHF : Fr [] H HF := f06.in fF hD
        have f07 := fHF.trans f7
        have hF7 := f7.g0 hF
        show gName 4 (V.int p.1) _ _ _
        leaf_len
        refine (V1.keep f07).row z.1 z.2.1 fun q3 H8 hq3 q38 f8 => ?_
        one_sign
        refine z_ixDf (f8.g0 hF7) ((dPs_at nd1).mp hpm) ?_
        one_sign
        refine (V2.keep (f07.trans f8)).row z.2.2.1 z.2.2.2 fun q4 H9 hq4 q49 f9 => ?_
        have f09 := (f07.trans f8).trans f9
        one_sign
        refine ⟨o1, o2, R1, R2, r1, r2, D, q3, q4, ps, rowN R1 p.1, rowN R2 p.2, rfl, V1.keep f09, V2.keep f09, nd1, f9.g0 q38, q49, .inr ⟨od, f9.g0 (f8.g0 hF7)⟩, fun b hb H10 f10 => ?_⟩
        have f7x := (f8.trans f9).trans f10
        refine z_lcY hL2 (f7x.g0 hL7) (f7.trans f7x) hl (by rw [sizeLine_eq]; omega) fun H11 _ _ _ => ?_
        refine ⟨bs ++ [b], by rw [List.map_append]; rfl, by rw [List.length_append, hbl]; rfl, fun j b' p' e1 e2 => ?_⟩
        rcases Nat.lt_or_ge j bs.length with hj | hj
        · rw [List.getElem?_append_left hj] at e1
          exact hbs j b' p' e1 e2
        · rw [List.getElem?_append_right hj] at e1
          cases hjj : j - bs.length with
          | zero =>
            have : j = i := by omega
            subst this
            rw [hjj] at e1
            cases e1
            rw [hp] at e2
            cases e2
            exact hb
          | succ n => rw [hjj] at e1; cases e1
      · obtain ⟨bs, rfl, hbl, hbs⟩ := hxs
        have hdl : (dPs ps).length = ps.length := List.length_map _
        rw [hdl] at hbl
        one_sign
        refine ⟨L2, bs, rfl, SqL.of hL8, ?_⟩
        refine k _ ?_ H8 (f06.trans f68)
        rw [List.all_eq_true]
        constructor
        · intro hb
          refine ⟨nd1, nd2, hok, hrt, fun p hpm => ?_⟩
          obtain ⟨j, hj⟩ := List.mem_iff_getElem?.mp hpm
          have hjl : j < ps.length := (List.getElem?_eq_some_iff.mp hj).1
          obtain ⟨b, hbj⟩ : ∃ b, bs[j]? = some b := ⟨_, List.getElem?_eq_getElem (by omega)⟩
          exact (hbs j b p hbj hj).mp (hb b (List.mem_of_getElem? hbj))
        · intro hp b hbm
          obtain ⟨j, hj⟩ := List.mem_iff_getElem?.mp hbm
          have hjl : j < bs.length := (List.getElem?_eq_some_iff.mp hj).1
          obtain ⟨p, hpj⟩ : ∃ p, ps[j]? = some p := ⟨_, List.getElem?_eq_getElem (by omega)⟩
          exact (hbs j b p hj hpj).mpr (hp.rw' p (List.mem_of_getElem? hpj))
end

end LX
namespace LX
open PySem PySem.Spec PyProof.Rows L2 NdefX
set_option hygiene false in
local macro_rules | `(tactic| k_memK) => `(tactic| first | exact W.na_Comparison_one | exact W.na_Comparison_other | exact W.na_Comparison_there | exact W.na_Comparison_back | exact W.na_Comparison_first | exact W.na_Store_room | exact W.na_Store_entries | exact W.na_Store_words | exact W.na_Store__places | exact W.na_Store__least | exact W.na_Space_store | exact W.na_Space_pressure | exact W.na_Space_always | exact W.na_Space_allocations | exact W.na_Space_collections | exact W.na_Space__roots | exact W.na_Space__held | exact W.na_Space__saved)
set_option hygiene false in
local macro_rules | `(tactic| k_ownIn) => `(tactic| first | exact W.C_Comparison | exact W.C_Store | exact W.C_Space)
local macro_rules | `(tactic| none_booked) => `(tactic| first | assumption | (refine Fr.g0 (by assumption) ?_; none_booked))
local macro_rules | `(tactic| one_sign) => `(tactic| repeat (first
  | refine Stp.h ?_
  | ((with_reducible refine' z_fld1 ?k0 ?k1 ?k2 ?k3 ?_); (case k0 => none_booked); (case k1 => k_ownIn); (case k2 => k_memK); (case k3 => rfl))
  | ((with_reducible refine' z_meth1 ?k0 ?k1 ?_); (case k0 => none_booked); (case k1 => rfl))
  | ((with_reducible refine' z_bmL ?k0 ?_); (case k0 => none_booked))
  | ((with_reducible refine' z_lenL ?k0 ?_); (case k0 => none_booked))
  | ((with_reducible refine' z_lenT ?k0 ?_); (case k0 => none_booked))
  | ((with_reducible refine' z_lenD ?k0 ?_); (case k0 => none_booked))
  | ((with_reducible refine' z_truL ?k0 ?_); (case k0 => none_booked))
  | ((with_reducible refine' z_truD ?k0 ?_); (case k0 => none_booked))
  | ((with_reducible refine' z_truT ?k0 ?_); (case k0 => none_booked))
  | ((with_reducible refine' z_inDIP ?k0 ?_); (case k0 => none_booked))
  | ((with_reducible refine' z_inDIN ?k0 ?_); (case k0 => none_booked))
  | ((with_reducible refine' z_inDfP ?k0 ?_); (case k0 => none_booked))
  | ((with_reducible refine' z_inDfN ?k0 ?_); (case k0 => none_booked))
  | ((with_reducible refine' z_iList1 ?k0 ?_); (case k0 => none_booked))
  | ((with_reducible refine' z_isi0 ?k0 ?k1 ?k2 ?_); (case k0 => exact (ClsV.ty _)); (case k1 => exact (TyX.base (TyOf.lst (by none_booked)))); (case k2 => first | exact kt_list_int | exact kt_list_bool | exact kt_list_str | exact kt_list_list | exact kt_list_tuple | exact kt_list_dict))
  | ((with_reducible refine' z_rI ?k0 ?_); (case k0 => first | exact (by decide : (0 : Int) < _) | exact ⟨by decide, by decide⟩ | exact ⟨by decide, by decide, by decide⟩ | (show (0 : Int) < _; omega)))
  | ((with_reducible refine' z_mulI ?k0 ?_); (case k0 => first | exact Or.inr ⟨by decide, by decide⟩ | exact Or.inl ⟨by decide, by decide⟩ | exact Or.inl ⟨by omega, by omega⟩ | exact Or.inr ⟨by omega, by omega⟩))))
local macro_rules | `(tactic| leaf_len) => `(tactic| (simp only [wipe, List.map_cons, List.map_nil, List.set_cons_zero, List.set_cons_succ]; one_sign; refine z_ok rfl ?_; one_sign))
def VdB : Vd → Prop
  | .held => True
  | .word p => p.length ≤ 1000
  | .size p => p.length ≤ 1000
  | .same p q => p.length ≤ 1000 ∧ q.length ≤ 1000
  | .alike ps => ps.length ≤ 1000
theorem ifF {b : Bool} {A B : Prop} (h : b = false) (k : B) : if b = true then A else B := by subst h; exact k
theorem ifT {b : Bool} {A B : Prop} (h : b = true) (k : A) : if b = true then A else B := by subst h; exact k
section
variable {P : Program} {w : World} {K : PySem.W.Frag} {mg : Str → Option Value} {base : Heap}
def sp_judge (C CS PT : Addr) : Sp := fun vs H Q _ => ∃ o1 o2 R1 R2 r1 r2 t v, vs = [.ref o1, .ref o2, .ref t] ∧ WV C CS PT H o1 R1 r1 ∧ WV C CS PT H o2 R2 r2 ∧ VdAt H t v ∧ VdB v ∧
  (∀ x, (x = true ↔ Hold R1 R2 r1 r2 v) → ∀ H', Fr [] H H' → Q (.bl x) H')
theorem ok_judge (W : WT P K mg base) : FnOk P w K mg base CX0 7 W.f_judge W.fd_judge ["one", "other", "verdict"] (sp_judge W.c_Store W.c_Space W.PT_Store_close_up) := by
  refine W.F_judge.ok sc_judge (fun vs H Q E h => by obtain ⟨o1, o2, R1, R2, r1, r2, t, v, rfl, V1, V2, hv, hb, k⟩ := h; rfl) (fun cdv A outer s H vs Q E hr h => ?_)
  obtain ⟨o1, o2, R1, R2, r1, r2, t, v, rfl, V1, V2, hv, hb, k⟩ := h
  have hu1 := hu_of hr
  have hu64 := hu64_of hr
  refine ⟨_, (pss_cons (ps_if (pt_cmpR (op_eqU hu64) (pe_ix (ix_U hu1) (pv 2) pe_int (fun _ _ => rfl)) (pe_strT (show (PySem.Str.ofString "alike") = T [97, 108, 105, 107, 101] by decide +kernel)) (by first | exact nomark _ | rfl)) (pss_one (ps_ret (pe_call (ok_pairs_match W) (hr.mono (by decide)) rfl W.g_pairs_match W.F_pairs_match.kp W.b_pairs_match .nil pass0 (pa_cons (pv 0) (pa_cons (pv 1) (pa_cons (pe_ix (ix_U hu1) (pv 2) pe_int (fun _ _ => rfl)) pa_nil)))))) pss_nil)
      (pss_cons (ps_if (pt_cmpR (op_eqU hu64) (pe_ix (ix_U hu1) (pv 2) pe_int (fun _ _ => rfl)) (pe_strT (show (PySem.Str.ofString "held") = T [104, 101, 108, 100] by decide +kernel)) (by first | exact nomark _ | rfl)) (pss_one (ps_ret (pe_cmpR (op_neU hu64) (pe_meth0 (pv 0) W.C_Space W.m_Space_held (ok_Space_held W) (hr.mono (by decide)) W.b_Space_held .nil pass0 ) (pe_meth0 (pv 1) W.C_Space W.m_Space_held (ok_Space_held W) (hr.mono (by decide)) W.b_Space_held .nil pass0 ) (by first | exact nomark _ | rfl)))) pss_nil)
      (pss_cons (ps_if (pt_cmpR (op_eqU hu64) (pe_ix (ix_U hu1) (pv 2) pe_int (fun _ _ => rfl)) (pe_strT (show (PySem.Str.ofString "word") = T [119, 111, 114, 100] by decide +kernel)) (by first | exact nomark _ | rfl)) (pss_one (ps_ret (pe_call (ok_words_differ W) (hr.mono (by decide)) rfl W.g_words_differ W.F_words_differ.kp W.b_words_differ .nil pass0 (pa_cons (pv 0) (pa_cons (pv 1) (pa_cons (pe_ix (ix_U hu1) (pv 2) pe_int (fun _ _ => rfl)) pa_nil)))))) pss_nil)
      (pss_cons (ps_if (pt_cmpR (op_eqU hu64) (pe_ix (ix_U hu1) (pv 2) pe_int (fun _ _ => rfl)) (pe_strT (show (PySem.Str.ofString "size") = T [115, 105, 122, 101] by decide +kernel)) (by first | exact nomark _ | rfl)) (pss_one (ps_ret (pe_call (ok_sizes_differ W) (hr.mono (by decide)) rfl W.g_sizes_differ W.F_sizes_differ.kp W.b_sizes_differ .nil pass0 (pa_cons (pv 0) (pa_cons (pv 1) (pa_cons (pe_ix (ix_U hu1) (pv 2) pe_int (fun _ _ => rfl)) pa_nil)))))) pss_nil)
      (pss_one (ps_ret (pe_call (ok_sharing_differs W) (hr.mono (by decide)) rfl W.g_sharing_differs W.F_sharing_differs.kp W.b_sharing_differs .nil pass0 (pa_cons (pv 0) (pa_cons (pv 1) (pa_cons (pe_ix (ix_U hu1) (pv 2) pe_int (fun _ _ => rfl)) (pa_cons (pe_ix (ix_U hu1) (pv 2) pe_int (fun _ _ => rfl)) pa_nil))))))))))), ?_⟩
  refine z_start (σ := [some _, some _, some _]) rfl ?_
  one_sign
  cases v with
  | held =>
    have hv : H t = some (.tup [.str sHELD]) := hv
    obtain ⟨dxs1, st1, pr1, rt1, hd1, al1, cc1, dxa, fs1, x1, x2, x3, x4, x5, x6⟩ := V1.objs
    obtain ⟨dxs2, st2, pr2, rt2, hd2, al2, cc2, dxb, fs2, y1, y2, y3, y4, y5, y6⟩ := V2.objs
    refine z_ixT hv rfl ?_
    one_sign
    refine ifF (by decide +kernel) ?_
    one_sign
    refine z_ixT hv rfl ?_
    one_sign
    refine ifT (by decide +kernel) ?_
    one_sign
    refine ⟨o1, R1, r1, rfl, V1, ?_⟩
    one_sign
    refine ⟨o2, R2, r2, rfl, V2, ?_⟩
    one_sign
    refine k _ ?_ H Fr.rfl'
    rw [Bool.not_eq_true', decide_eq_false_iff_not]
    show _ ↔ r1.length ≠ r2.length
    exact not_congr (by omega)
  | word p =>
    obtain ⟨pa, hv, hp⟩ := hv
    refine z_ixT hv rfl ?_
    one_sign
    refine ifF (by decide +kernel) ?_
    one_sign
    refine z_ixT hv rfl ?_
    one_sign
    refine ifF (by decide +kernel) ?_
    one_sign
    refine z_ixT hv rfl ?_
    one_sign
    refine ifT (by decide +kernel) ?_
    one_sign
    refine z_ixT hv rfl ?_
    one_sign
    exact ⟨o1, o2, R1, R2, r1, r2, pa, p, rfl, V1, V2, hp, hb, fun b H' hh f => k b hh H' f⟩
  | size p =>
    obtain ⟨pa, hv, hp⟩ := hv
    refine z_ixT hv rfl ?_
    one_sign
    refine ifF (by decide +kernel) ?_
    one_sign
    refine z_ixT hv rfl ?_
    one_sign
    refine ifF (by decide +kernel) ?_
    one_sign
    refine z_ixT hv rfl ?_
    one_sign
    refine ifF (by decide +kernel) ?_
    one_sign
    refine z_ixT hv rfl ?_
    one_sign
    refine ifT (by decide +kernel) ?_
    one_sign
    refine z_ixT hv rfl ?_
    one_sign
    exact ⟨o1, o2, R1, R2, r1, r2, pa, p, rfl, V1, V2, hp, hb, fun b H' hh f => k b hh H' f⟩
  | same p q =>
    obtain ⟨pa, qa, hv, hp, hq⟩ := hv
    refine z_ixT hv rfl ?_
    one_sign
    refine ifF (by decide +kernel) ?_
    one_sign
    refine z_ixT hv rfl ?_
    one_sign
    refine ifF (by decide +kernel) ?_
    one_sign
    refine z_ixT hv rfl ?_
    one_sign
    refine ifF (by decide +kernel) ?_
    one_sign
    refine z_ixT hv rfl ?_
    one_sign
    refine ifF (by decide +kernel) ?_
    one_sign
    refine z_ixT hv rfl ?_
    one_sign
    refine z_ixT hv rfl ?_
    one_sign
    exact ⟨o1, o2, R1, R2, r1, r2, pa, qa, p, q, rfl, V1, V2, hp, hb.1, hq, hb.2, fun b H' hh f => k b hh H' f⟩
  | alike ps =>
    obtain ⟨l, As, hv, hl, hA⟩ := hv
    refine z_ixT hv rfl ?_
    one_sign
    refine ifT (by decide +kernel) ?_
    one_sign
    refine z_ixT hv rfl ?_
    one_sign
    exact ⟨o1, o2, R1, R2, r1, r2, l, As, ps, rfl, V1, V2, hl, hA, hb, fun b hh H' f => k b hh H' f⟩
end

end LX
namespace LX
open PySem PySem.Spec PyProof.Rows L2 NdefX
set_option hygiene false in
local macro_rules | `(tactic| k_memK) => `(tactic| first | exact W.na_Comparison_one | exact W.na_Comparison_other | exact W.na_Comparison_there | exact W.na_Comparison_back | exact W.na_Comparison_first | exact W.na_Store_room | exact W.na_Store_entries | exact W.na_Store_words | exact W.na_Store__places | exact W.na_Store__least | exact W.na_Space_store | exact W.na_Space_pressure | exact W.na_Space_always | exact W.na_Space_allocations | exact W.na_Space_collections | exact W.na_Space__roots | exact W.na_Space__held | exact W.na_Space__saved)
set_option hygiene false in
local macro_rules | `(tactic| k_ownIn) => `(tactic| first | exact W.C_Comparison | exact W.C_Store | exact W.C_Space)
local macro_rules | `(tactic| none_booked) => `(tactic| first | assumption | (refine Fr.g0 (by assumption) ?_; none_booked))
local macro_rules | `(tactic| one_sign) => `(tactic| repeat (first
  | refine Stp.h ?_
  | ((with_reducible refine' z_fld1 ?k0 ?k1 ?k2 ?k3 ?_); (case k0 => none_booked); (case k1 => k_ownIn); (case k2 => k_memK); (case k3 => rfl))
  | ((with_reducible refine' z_meth1 ?k0 ?k1 ?_); (case k0 => none_booked); (case k1 => rfl))
  | ((with_reducible refine' z_bmL ?k0 ?_); (case k0 => none_booked))
  | ((with_reducible refine' z_lenL ?k0 ?_); (case k0 => none_booked))
  | ((with_reducible refine' z_lenT ?k0 ?_); (case k0 => none_booked))
  | ((with_reducible refine' z_lenD ?k0 ?_); (case k0 => none_booked))
  | ((with_reducible refine' z_truL ?k0 ?_); (case k0 => none_booked))
  | ((with_reducible refine' z_truD ?k0 ?_); (case k0 => none_booked))
  | ((with_reducible refine' z_truT ?k0 ?_); (case k0 => none_booked))
  | ((with_reducible refine' z_inDIP ?k0 ?_); (case k0 => none_booked))
  | ((with_reducible refine' z_inDIN ?k0 ?_); (case k0 => none_booked))
  | ((with_reducible refine' z_inDfP ?k0 ?_); (case k0 => none_booked))
  | ((with_reducible refine' z_inDfN ?k0 ?_); (case k0 => none_booked))
  | ((with_reducible refine' z_iList1 ?k0 ?_); (case k0 => none_booked))
  | ((with_reducible refine' z_isi0 ?k0 ?k1 ?k2 ?_); (case k0 => exact (ClsV.ty _)); (case k1 => exact (TyX.base (TyOf.lst (by none_booked)))); (case k2 => first | exact kt_list_int | exact kt_list_bool | exact kt_list_str | exact kt_list_list | exact kt_list_tuple | exact kt_list_dict))
  | ((with_reducible refine' z_rI ?k0 ?_); (case k0 => first | exact (by decide : (0 : Int) < _) | exact ⟨by decide, by decide⟩ | exact ⟨by decide, by decide, by decide⟩ | (show (0 : Int) < _; omega)))
  | ((with_reducible refine' z_mulI ?k0 ?_); (case k0 => first | exact Or.inr ⟨by decide, by decide⟩ | exact Or.inl ⟨by decide, by decide⟩ | exact Or.inl ⟨by omega, by omega⟩ | exact Or.inr ⟨by omega, by omega⟩))))
local macro_rules | `(tactic| leaf_len) => `(tactic| (simp only [wipe, List.map_cons, List.map_nil, List.set_cons_zero, List.set_cons_succ]; one_sign; refine z_ok rfl ?_; one_sign))
/-- a world of the law's: its rows and words in a tuple -/
def WL (H : Hp) (wt : Addr) (R : List (List Int)) (ws : List Int) : Prop := ∃ ra wa A, H wt = some (.tup [.ref ra, .ref wa]) ∧ LR H ra wa A R ws
theorem WL.keep {H H' : Hp} {wt : Addr} {R : List (List Int)} {ws : List Int} (h : WL H wt R ws) (f : Fr [] H H') : WL H' wt R ws := let ⟨ra, wa, A, h1, h2⟩ := h; ⟨ra, wa, A, f.g0 h1, h2.keep f⟩
section
variable {P : Program} {w : World} {K : PySem.W.Frag} {mg : Str → Option Value} {base : Heap}
def sp_lwalk : Sp := fun vs H Q _ => ∃ wt pa R ws p, vs = [.ref wt, .ref pa] ∧ WL H wt R ws ∧ Sq H pa p ∧ p.length ≤ 1000 ∧
  ∀ H', Fr [] H H' → Q (optV (walkW R (0 :: ws) p)) H'
theorem ok__law_walk (W : WT P K mg base) : FnOk P w K mg base CX0 1 W.f__law_walk W.fd__law_walk ["_law_world", "_law_path_here"] sp_lwalk := by
  refine W.F__law_walk.ok sc__law_walk (fun vs H Q E h => by obtain ⟨wt, pa, R, ws, p, rfl, WD, hpa, hp, k⟩ := h; rfl) (fun cdv A outer s H vs Q E hr h => ?_)
  obtain ⟨wt, pa, R, ws, p, rfl, WD, hpa, hp, k⟩ := h
  have hu1 := hu_of hr
  have hu64 := hu64_of hr
  refine ⟨_, (pss_cons (ps_set (i := 2) sc__law_walk.nd rfl (by first | exact Or.inl rfl | exact Or.inr rfl) (pe_op op_addU (pe_lst (pa_cons pe_int pa_nil)) (pe_ix (ix_U hu1) (pv 0) pe_int (fun _ _ => rfl))))
      (pss_cons (ps_set (i := 3) sc__law_walk.nd rfl (by first | exact Or.inl rfl | exact Or.inr rfl) pe_non)
      (pss_cons (ps_for PassesOwn.never rfl (pi_range1 (by rfl) W.n_range (pa_cons (pe_callB call_lenU (by rfl) W.n_len bb_len (pa_cons (pv 1) pa_nil)) pa_nil)) (pg_name (i := 4) sc__law_walk.nd rfl (by first | exact Or.inl rfl | exact Or.inr rfl)) (Evl.pss_cut (ps_if (pt_cmpR op_gtU (pv 4) pe_int (by first | exact nomark _ | rfl)) (pss_cons (ps_if (PW.pt (pw_or (pt_cmpR (op_eqU hu64) (pe_op op_mod (pe_callTy call_intU (by rfl) W.n_int bb_int (pa_cons (pv 3) pa_nil)) pe_int) pe_int (by first | exact nomark _ | rfl)) (pw_or1 (pt_cmpR op_geU (pe_op op_fdivW (pv 3) pe_int) (pe_callB call_lenU (by rfl) W.n_len bb_len (pa_cons (pe_ix (ix_U hu1) (pv 0) pe_int (fun _ _ => rfl)) pa_nil)) (by first | exact nomark _ | rfl))))) (pss_one (ps_ret pe_non)) pss_nil)
      (pss_one (ps_set (i := 2) sc__law_walk.nd rfl (by first | exact Or.inl rfl | exact Or.inr rfl) (pe_ix (ix_U hu1) (pe_ix (ix_U hu1) (pv 0) pe_int (fun _ _ => rfl)) (pe_op op_fdivW (pv 3) pe_int) (fun _ _ => rfl))))) pss_nil)
      (pss_cons (ps_if (PW.pt (pw_or (pt_cmpR op_ltU (pe_ix (ix_U hu1) (pv 1) (pv 4) (fun _ _ => rfl)) pe_int (by first | exact nomark _ | rfl)) (pw_or1 (pt_cmpR op_geU (pe_ix (ix_U hu1) (pv 1) (pv 4) (fun _ _ => rfl)) (pe_callB call_lenU (by rfl) W.n_len bb_len (pa_cons (pv 2) pa_nil)) (by first | exact nomark _ | rfl))))) (pss_one (ps_ret pe_non)) pss_nil)
      (pss_one (ps_set (i := 3) sc__law_walk.nd rfl (by first | exact Or.inl rfl | exact Or.inr rfl) (pe_ix (ix_U hu1) (pv 2) (pe_ix (ix_U hu1) (pv 1) (pv 4) (fun _ _ => rfl)) (fun _ _ => rfl)))))))
      (pss_one (ps_ret (pv 3)))))), ?_⟩
  refine z_start (σ := [some _, some _, none, none, none]) rfl ?_
  one_sign
  obtain ⟨ra, wa, A, hwt, L⟩ := WD
  refine z_newL (by show 1 ≤ sizeLine; decide) fun q H1 hq f1 q1 => ?_
  one_sign
  refine z_ixT (f1.g0 hwt) rfl ?_
  refine z_addL q1 (f1.g0 L.wa) (by rw [List.length_map, sizeLine_eq]; have := L.lw; show 1 + ws.length ≤ _; omega) fun r H2 hr f2 r2 => ?_
  have e0 := L.e0
  have r2 : H2 r = some (.lst ((0 :: ws).map V.int)) := r2
  have l0 : (0 :: ws).length ≤ 1000 := by rw [List.length_cons]; have := L.lw; omega
  generalize (0 :: ws) = r0 at r2 k e0 l0
  one_sign
  refine z_lenE (hpa.keep (f1.trans f2)) ?_
  one_sign
  refine z_rng1 p.length rfl (by omega) ?_
  refine for_range (lo := 0) (n := p.length) (fun i σ H' => ∃ (r : Addr) (row : List Int) (sv : Option Int) (v5 : Option V), σ = [some (.ref wt), some (.ref pa), some (.ref r), some (optV sv), v5] ∧ walkS R r0 (p.take i) = some sv ∧ H' r = some (.lst (row.map V.int)) ∧ (i = 0 → row = r0 ∧ sv = none) ∧ (0 < i → ∃ w, sv = some w) ∧ row.length ≤ 1000 ∧ Fr [] H H')
    ⟨r, r0, none, _, rfl, rfl, r2, fun _ => ⟨rfl, rfl⟩, fun h => by omega, l0, f1.trans f2⟩ (fun i σ H3 hi hI => ?_) (fun σ H3 hI => ?_)
  · obtain ⟨r, row, sv, v5, rfl, hw, hr3, hi0, hi1, hrl, f3⟩ := hI
    obtain ⟨kk, hk⟩ : ∃ kk, p[i]? = some kk := ⟨_, List.getElem?_eq_getElem hi⟩
    have hnext := walkS_take (R := R) (r0 := r0) hk
    rw [hw] at hnext
    have L3 := L.keep f3
    have hra3 := L3.ra
    have hwt3 := f3.g0 hwt
    have dead : walkS R r0 (p.take (i + 1)) = none → Q V.non H3 := fun h => by
      rw [walkS_dead h] at k
      exact k H3 f3
    one_sign
    refine Evl.q_cut (M := fun σ H' => H' = H3 ∧ ∃ (r : Addr) (row : List Int), σ = [some (.ref wt), some (.ref pa), some (.ref r), some (optV sv), some (.int (0 + (i : Int)))] ∧ H3 r = some (.lst (row.map V.int)) ∧ (∀ k, wst R r0 (some sv) k = (stepW row k).map some) ∧ row.length ≤ 1000) ?_ ?_
    · one_sign
      refine iteD (fun h => ?_) (fun h => ?_)
      · have h : (0 : Int) < 0 + (i : Int) := h
        obtain ⟨x, rfl⟩ := hi1 (by omega)
        have hev : Evn x := walkS_evn L.eR e0 hw
        rw [show optV (some x) = V.int x from rfl]
        one_sign
        refine iteD (fun h2 => ?_) (fun h2 => ?_)
        · one_sign
          exact dead (by
            rw [hnext]
            show ((nextRow R x).bind fun row => stepW row kk).map some = _
            unfold nextRow
            rw [if_neg (by omega)]
            rfl)
        one_sign
        refine z_ixT hwt3 rfl ?_
        one_sign
        rw [List.length_map, L.rows.len]
        refine iteD (fun h3 => ?_) (fun h3 => ?_)
        · have h3 : (R.length : Int) ≤ x / 2 := h3
          one_sign
          exact dead (by
            rw [hnext]
            show ((nextRow R x).bind fun row => stepW row kk).map some = _
            unfold nextRow
            split
            · rw [List.getElem?_eq_none_iff.mpr (by omega)]; rfl
            · rfl)
        have h3 : ¬ (R.length : Int) ≤ x / 2 := h3
        have hx0 : 0 ≤ x := hev (by omega)
        obtain ⟨row2, hr2⟩ : ∃ row2, R[(x / 2).toNat]? = some row2 := ⟨_, List.getElem?_eq_getElem (by omega)⟩
        obtain ⟨a, ha⟩ : ∃ a, A[(x / 2).toNat]? = some a := ⟨_, List.getElem?_eq_getElem (by have := L.rows.len; omega)⟩
        one_sign
        refine z_ixT hwt3 rfl ?_
        one_sign
        refine z_ixL hra3 (by rw [show x / 2 = ((x / 2).toNat : Int) by omega]; exact atI_nat (ref_at ha)) ?_
        one_sign
        refine ⟨rfl, a, row2, rfl, L3.rows.it _ a row2 ha hr2, fun k => ?_, by have := L.lr row2 (List.mem_of_getElem? hr2); omega⟩
        show ((nextRow R x).bind fun row => stepW row k).map some = _
        unfold nextRow
        rw [if_pos ⟨by omega, hx0⟩, hr2]
        rfl
      · have h : ¬ (0 : Int) < 0 + (i : Int) := h
        obtain ⟨rfl, rfl⟩ := hi0 (by omega)
        one_sign
        exact ⟨rfl, r, row, rfl, hr3, fun k => rfl, hrl⟩
    rintro σ H4 ⟨rfl, r, row, rfl, hr3, hst, hrl⟩
    rw [hst] at hnext
    one_sign
    refine z_ixE (hpa.keep f3) hk ?_
    one_sign
    refine iteD (fun h1 => ?_) (fun h1 => ?_)
    · have h1 : kk < 0 := h1
      one_sign
      exact dead (by rw [hnext, stepW_out (by omega)]; rfl)
    · have h1 : ¬ kk < 0 := h1
      one_sign
      refine z_ixE (hpa.keep f3) hk ?_
      one_sign
      rw [List.length_map]
      refine iteD (fun h2 => ?_) (fun h2 => ?_)
      · have h2 : (row.length : Int) ≤ kk := h2
        one_sign
        exact dead (by rw [hnext, stepW_out (by omega)]; rfl)
      · have h2 : ¬ (row.length : Int) ≤ kk := h2
        obtain ⟨x, hx1, hx2⟩ := stepW_in (row := row) (k := kk) (by omega) (by omega)
        one_sign
        refine z_ixE (hpa.keep f3) hk ?_
        one_sign
        refine z_ixL hr3 (by rw [show kk = (kk.toNat : Int) by omega]; exact atI_nat (int_at hx2)) ?_
        one_sign
        exact ⟨r, row, some x, _, rfl, by rw [hnext, hx1]; rfl, hr3, fun h => by omega, fun _ => ⟨x, rfl⟩, hrl, f3⟩
  · obtain ⟨r, row, sv, v5, rfl, hw, hr3, hi0, hi1, hrl, f3⟩ := hI
    rw [List.take_length] at hw
    one_sign
    have e : walkW R r0 p = sv := by unfold walkW; rw [hw]; rfl
    rw [← e]
    exact k H3 f3
def sp_thing : Sp := fun vs H Q _ => ∃ wt R ws, ∃ x : Option Int, vs = [.ref wt, optV x] ∧ WL H wt R ws ∧ (∀ v, x = some v → Evn v) ∧ Q (optV (x.bind (objN R))) H
theorem ok__law_thing (W : WT P K mg base) : FnOk P w K mg base CX0 1 W.f__law_thing W.fd__law_thing ["_law_world", "_law_word_here"] sp_thing := by
  refine W.F__law_thing.ok sc__law_thing (fun vs H Q E h => by obtain ⟨wt, R, ws, x, rfl, WD, he, k⟩ := h; rfl) (fun cdv A outer s H vs Q E hr h => ?_)
  obtain ⟨wt, R, ws, x, rfl, WD, he, k⟩ := h
  have hu1 := hu_of hr
  have hu64 := hu64_of hr
  refine ⟨_, (pss_cons (ps_if (PW.pt (pw_and (pt_cmpR op_isnotU (pv 1) pe_non (by first | exact nomark _ | rfl)) (pw_and (pt_cmpR (op_eqU hu64) (pe_op op_mod (pe_callTy call_intU (by rfl) W.n_int bb_int (pa_cons (pv 1) pa_nil)) pe_int) pe_int (by first | exact nomark _ | rfl)) (pw_and1 (pt_cmpR op_ltU (pe_op op_fdivW (pv 1) pe_int) (pe_callB call_lenU (by rfl) W.n_len bb_len (pa_cons (pe_ix (ix_U hu1) (pv 0) pe_int (fun _ _ => rfl)) pa_nil)) (by first | exact nomark _ | rfl)))))) (pss_one (ps_ret (pe_op op_fdivW (pv 1) pe_int))) pss_nil)
      (pss_one (ps_ret pe_non))), ?_⟩
  refine z_start (σ := [some _, some _]) rfl ?_
  one_sign
  obtain ⟨ra, wa, A, hwt, L⟩ := WD
  have hra := L.ra
  cases x with
  | none =>
    simp only [optV]
    one_sign
    exact k
  | some v =>
    simp only [optV]
    one_sign
    refine iteT ?_
    one_sign
    refine iteD (fun h => ?_) (fun h => ?_)
    · have h : v % 2 = 0 := h
      one_sign
      refine z_ixT hwt rfl ?_
      one_sign
      rw [List.length_map, L.rows.len]
      have h0 := he v rfl h
      refine iteD (fun h2 => ?_) (fun h2 => ?_)
      · have h2 : v / 2 < (R.length : Int) := h2
        one_sign
        have : objN R v = some (v / 2) := by unfold objN; rw [if_pos ⟨h, by omega, h2⟩]
        rw [show (some v).bind (objN R) = some (v / 2) from this] at k
        exact k
      · have h2 : ¬ v / 2 < (R.length : Int) := h2
        one_sign
        have : objN R v = none := by unfold objN; rw [if_neg fun z => h2 z.2.2]
        rw [show (some v).bind (objN R) = none from this] at k
        exact k
    · have h : ¬ v % 2 = 0 := h
      one_sign
      have : objN R v = none := by unfold objN; rw [if_neg fun z => h z.1]
      rw [show (some v).bind (objN R) = none from this] at k
      exact k
end

end LX
namespace LX
open PySem PySem.Spec PyProof.Rows L2 NdefX
set_option hygiene false in
local macro_rules | `(tactic| k_memK) => `(tactic| first | exact W.na_Comparison_one | exact W.na_Comparison_other | exact W.na_Comparison_there | exact W.na_Comparison_back | exact W.na_Comparison_first | exact W.na_Store_room | exact W.na_Store_entries | exact W.na_Store_words | exact W.na_Store__places | exact W.na_Store__least | exact W.na_Space_store | exact W.na_Space_pressure | exact W.na_Space_always | exact W.na_Space_allocations | exact W.na_Space_collections | exact W.na_Space__roots | exact W.na_Space__held | exact W.na_Space__saved)
set_option hygiene false in
local macro_rules | `(tactic| k_ownIn) => `(tactic| first | exact W.C_Comparison | exact W.C_Store | exact W.C_Space)
local macro_rules | `(tactic| none_booked) => `(tactic| first | assumption | (refine Fr.g0 (by assumption) ?_; none_booked))
local macro_rules | `(tactic| one_sign) => `(tactic| repeat (first
  | refine Stp.h ?_
  | ((with_reducible refine' z_fld1 ?k0 ?k1 ?k2 ?k3 ?_); (case k0 => none_booked); (case k1 => k_ownIn); (case k2 => k_memK); (case k3 => rfl))
  | ((with_reducible refine' z_meth1 ?k0 ?k1 ?_); (case k0 => none_booked); (case k1 => rfl))
  | ((with_reducible refine' z_bmL ?k0 ?_); (case k0 => none_booked))
  | ((with_reducible refine' z_lenL ?k0 ?_); (case k0 => none_booked))
  | ((with_reducible refine' z_lenT ?k0 ?_); (case k0 => none_booked))
  | ((with_reducible refine' z_lenD ?k0 ?_); (case k0 => none_booked))
  | ((with_reducible refine' z_truL ?k0 ?_); (case k0 => none_booked))
  | ((with_reducible refine' z_truD ?k0 ?_); (case k0 => none_booked))
  | ((with_reducible refine' z_truT ?k0 ?_); (case k0 => none_booked))
  | ((with_reducible refine' z_inDIP ?k0 ?_); (case k0 => none_booked))
  | ((with_reducible refine' z_inDIN ?k0 ?_); (case k0 => none_booked))
  | ((with_reducible refine' z_inDfP ?k0 ?_); (case k0 => none_booked))
  | ((with_reducible refine' z_inDfN ?k0 ?_); (case k0 => none_booked))
  | ((with_reducible refine' z_iList1 ?k0 ?_); (case k0 => none_booked))
  | ((with_reducible refine' z_isi0 ?k0 ?k1 ?k2 ?_); (case k0 => exact (ClsV.ty _)); (case k1 => exact (TyX.base (TyOf.lst (by none_booked)))); (case k2 => first | exact kt_list_int | exact kt_list_bool | exact kt_list_str | exact kt_list_list | exact kt_list_tuple | exact kt_list_dict))
  | ((with_reducible refine' z_rI ?k0 ?_); (case k0 => first | exact (by decide : (0 : Int) < _) | exact ⟨by decide, by decide⟩ | exact ⟨by decide, by decide, by decide⟩ | (show (0 : Int) < _; omega)))
  | ((with_reducible refine' z_mulI ?k0 ?_); (case k0 => first | exact Or.inr ⟨by decide, by decide⟩ | exact Or.inl ⟨by decide, by decide⟩ | exact Or.inl ⟨by omega, by omega⟩ | exact Or.inr ⟨by omega, by omega⟩))))
local macro_rules | `(tactic| leaf_len) => `(tactic| (simp only [wipe, List.map_cons, List.map_nil, List.set_cons_zero, List.set_cons_succ]; one_sign; refine z_ok rfl ?_; one_sign))
section
variable {P : Program} {w : World} {K : PySem.W.Frag} {mg : Str → Option Value} {base : Heap}
theorem z_call_thing {E : XK} {H : Hp} {Q : VK} {wt : Addr} {R : List (List Int)} {ws : List Int} {v : Int} (h : WL H wt R ws) (he : Evn v) (k : Q (optV (objN R v)) H) : sp_thing ([.ref wt, .int v] ++ []) H Q E := ⟨wt, R, ws, some v, rfl, h, fun v' e => by cases e; exact he, k⟩
def sp_rfit : Sp := fun vs H Q _ => ∃ o1 o2 R1 R2 ws1 ws2 td ra rb ps, ∃ a b : List Int, vs = [.ref o1, .ref o2, .ref td, .ref ra, .ref rb] ∧ WL H o1 R1 ws1 ∧ WL H o2 R2 ws2 ∧ (ps.map (·.1)).Nodup ∧ H ra = some (.lst (a.map V.int)) ∧ H rb = some (.lst (b.map V.int)) ∧ (∀ x ∈ a, Evn x) ∧ (∀ x ∈ b, Evn x) ∧ a.length ≤ 1000 ∧ DAt H td (dPs ps) ∧
  (∀ x, (x = true ↔ fitRows R1 R2 ps a b) → ∀ H', Fr [] H H' → Q (.bl x) H')
theorem ok__law_rows_fit (W : WT P K mg base) : FnOk P w K mg base CX0 2 W.f__law_rows_fit W.fd__law_rows_fit ["_law_one", "_law_other", "_law_there", "_law_row", "_law_twin_here"] sp_rfit := by
  refine W.F__law_rows_fit.ok sc__law_rows_fit (fun vs H Q E h => by obtain ⟨o1, o2, R1, R2, ws1, ws2, td, ra, rb, ps, a, b, rfl, V1, V2, nd, hra, hrb, ea, eb, hal, htd, k⟩ := h; rfl) (fun cdv A outer s H vs Q E hr h => ?_)
  obtain ⟨o1, o2, R1, R2, ws1, ws2, td, ra, rb, ps, a, b, rfl, V1, V2, nd, hra, hrb, ea, eb, hal, htd, k⟩ := h
  have hu1 := hu_of hr
  have hu64 := hu64_of hr
  refine ⟨_, (pss_cons (ps_if (pt_cmpR (op_neU hu64) (pe_callB call_lenU (by rfl) W.n_len bb_len (pa_cons (pv 3) pa_nil)) (pe_callB call_lenU (by rfl) W.n_len bb_len (pa_cons (pv 4) pa_nil)) (by first | exact nomark _ | rfl)) (pss_one (ps_ret pe_bl)) pss_nil)
      (pss_cons (ps_for PassesOwn.never rfl (pi_range1 (by rfl) W.n_range (pa_cons (pe_callB call_lenU (by rfl) W.n_len bb_len (pa_cons (pv 3) pa_nil)) pa_nil)) (pg_name (i := 5) sc__law_rows_fit.nd rfl (by first | exact Or.inl rfl | exact Or.inr rfl)) (pss_cons (ps_set (i := 6) sc__law_rows_fit.nd rfl (by first | exact Or.inl rfl | exact Or.inr rfl) (pe_call (ok__law_thing W) (hr.mono (by decide)) rfl W.g__law_thing W.F__law_thing.kp W.b__law_thing .nil pass0 (pa_cons (pv 0) (pa_cons (pe_ix (ix_U hu1) (pv 3) (pv 5) (fun _ _ => rfl)) pa_nil))))
      (pss_cons (ps_set (i := 7) sc__law_rows_fit.nd rfl (by first | exact Or.inl rfl | exact Or.inr rfl) (pe_call (ok__law_thing W) (hr.mono (by decide)) rfl W.g__law_thing W.F__law_thing.kp W.b__law_thing .nil pass0 (pa_cons (pv 1) (pa_cons (pe_ix (ix_U hu1) (pv 4) (pv 5) (fun _ _ => rfl)) pa_nil))))
      (pss_one (ps_if (PW.pt (pw_or (pt_cmpR op_isU (pv 6) pe_non (by first | exact nomark _ | rfl)) (pw_or1 (pt_cmpR op_isU (pv 7) pe_non (by first | exact nomark _ | rfl))))) (pss_one (ps_if (PW.pt (pw_or (pt_cmpR op_isnotU (pv 6) pe_non (by first | exact nomark _ | rfl)) (pw_or (pt_cmpR op_isnotU (pv 7) pe_non (by first | exact nomark _ | rfl)) (pw_or1 (pt_cmpR (op_neU hu64) (pe_ix (ix_U hu1) (pv 3) (pv 5) (fun _ _ => rfl)) (pe_ix (ix_U hu1) (pv 4) (pv 5) (fun _ _ => rfl)) (by first | exact nomark _ | rfl)))))) (pss_one (ps_ret pe_bl)) pss_nil)) (pss_one (ps_if (PW.pt (pw_or (pt_cmpR (op_ninU hu1) (pv 6) (pv 2) (by first | exact nomark _ | rfl)) (pw_or1 (pt_cmpR (op_neU hu64) (pe_ix (ix_U hu1) (pv 2) (pv 6) (fun _ _ => rfl)) (pv 7) (by first | exact nomark _ | rfl))))) (pss_one (ps_ret pe_bl)) pss_nil)))))))
      (pss_one (ps_ret pe_bl)))), ?_⟩
  refine z_start (σ := [some _, some _, some _, some _, some _, none, none, none]) rfl ?_
  one_sign
  refine iteND (fun h => ?_) (fun h => ?_)
  · one_sign
    exact k false (iff_of_false (by simp) fun h' => h (by rw [List.length_map, List.length_map, h'.1])) H Fr.rfl'
  have hl : a.length = b.length := by rw [List.length_map, List.length_map] at h; omega
  one_sign
  rw [List.length_map]
  refine z_rng1 a.length rfl (by omega) ?_
  refine for_range (lo := 0) (n := a.length) (fun j σ H' => ∃ v5 v6 v7 : Option V, σ = [some (.ref o1), some (.ref o2), some (.ref td), some (.ref ra), some (.ref rb), v5, v6, v7] ∧ Fr [] H H' ∧ ∀ (i : Nat) (w v : Int), i < j → a[i]? = some w → b[i]? = some v → fitW R1 R2 ps w v) ⟨_, _, _, rfl, Fr.rfl', fun i w v hi => by omega⟩ (fun j σ H2 hi hP => ?_) (fun σ H1 hP => ?_)
  · obtain ⟨v5, v6, v7, rfl, f2, hfit⟩ := hP
    obtain ⟨wv, hwv⟩ : ∃ x, a[j]? = some x := ⟨_, List.getElem?_eq_getElem hi⟩
    obtain ⟨vv, hvv⟩ : ∃ x, b[j]? = some x := ⟨_, List.getElem?_eq_getElem (by omega)⟩
    have hra2 := f2.g0 hra
    have hrb2 := f2.g0 hrb
    have ew := ea wv (List.mem_of_getElem? hwv)
    have ev := eb vv (List.mem_of_getElem? hvv)
    have yes : fitW R1 R2 ps wv vv → ∀ (i : Nat) (w v : Int), i < j + 1 → a[i]? = some w → b[i]? = some v → fitW R1 R2 ps w v := fun hf i w v hi h1 h2 => by
      rcases Nat.lt_or_ge i j with hij | hij
      · exact hfit i w v hij h1 h2
      · obtain rfl : i = j := by omega
        rw [hwv] at h1; rw [hvv] at h2; cases h1; cases h2; exact hf
    have no : ¬ fitW R1 R2 ps wv vv → (false = true ↔ fitRows R1 R2 ps a b) := fun hf => iff_of_false (by simp) fun h' => hf (h'.2 j wv vv hwv hvv)
    have ixa : ∀ {Q : VK}, Q (.int wv) H2 → rIxU K (.ref ra) (.int (0 + (j : Int))) H2 Q := fun q => z_ixL hra2 (by rw [Int.zero_add]; exact atI_nat (int_at hwv)) q
    have ixb : ∀ {Q : VK}, Q (.int vv) H2 → rIxU K (.ref rb) (.int (0 + (j : Int))) H2 Q := fun q => z_ixL hrb2 (by rw [Int.zero_add]; exact atI_nat (int_at hvv)) q
    one_sign
    refine ixa ?_
    one_sign
    refine z_call_thing (V1.keep f2) ew ?_
    one_sign
    refine ixb ?_
    one_sign
    refine z_call_thing (V2.keep f2) ev ?_
    cases e1 : objN R1 wv with
    | none =>
      cases e2 : objN R2 vv with
      | none =>
        simp only [optV]
        one_sign
        refine ixa ?_
        one_sign
        refine ixb ?_
        one_sign
        refine iteND (fun h => ?_) (fun h => ?_)
        · one_sign
          refine k false (no fun hf => ?_) H2 f2
          rcases hf with ⟨_, _, h3⟩ | ⟨n, m, h1, _⟩
          · exact h h3
          · rw [e1] at h1; cases h1
        · one_sign
          exact ⟨_, _, _, rfl, f2, yes (.inl ⟨e1, e2, h⟩)⟩
      | some m =>
        simp only [optV]
        one_sign
        refine k false (no fun hf => ?_) H2 f2
        rcases hf with ⟨_, h2, _⟩ | ⟨n, m, h1, _⟩
        · rw [e2] at h2; cases h2
        · rw [e1] at h1; cases h1
    | some n =>
      cases e2 : objN R2 vv with
      | none =>
        simp only [optV]
        one_sign
        refine k false (no fun hf => ?_) H2 f2
        rcases hf with ⟨h1, _⟩ | ⟨n, m, _, h2, _⟩
        · rw [e1] at h1; cases h1
        · rw [e2] at h2; cases h2
      | some m =>
        have D2 := htd.keep f2
        have key : fitW R1 R2 ps wv vv ↔ (n, m) ∈ ps := ⟨fun hf => by
          rcases hf with ⟨h1, _⟩ | ⟨n', m', h1, h2, h3⟩
          · rw [e1] at h1; cases h1
          · rw [e1] at h1; rw [e2] at h2; cases h1; cases h2; exact h3, fun h => .inr ⟨n, m, e1, e2, h⟩⟩
        rw [dPs_at nd] at key
        simp only [optV]
        one_sign
        refine z_inXN D2 ?_
        one_sign
        cases e : valV (dPs ps) (.inl n) with
        | none =>
          one_sign
          exact k false (no fun hf => by rw [key.mp hf] at e; cases e) H2 f2
        | some v =>
          obtain ⟨g, hg, ev⟩ := Option.map_eq_some_iff.mp ((dPs_val ps n).symm.trans e)
          have ev : V.int g.2 = v := ev
          subst ev
          one_sign
          refine z_ixX D2 e ?_
          one_sign
          refine iteND (fun h => ?_) (fun h => ?_)
          · one_sign
            exact k false (no fun hf => by have z := key.mp hf; rw [e] at z; exact h (V.int.inj (Option.some.inj z))) H2 f2
          · one_sign
            exact ⟨_, _, _, rfl, f2, yes (key.mpr (by rw [e, h]))⟩
  · obtain ⟨v5, v6, v7, rfl, f1, hfit⟩ := hP
    one_sign
    refine k true (iff_of_true rfl ⟨hl, fun i w v h1 h2 => hfit i w v ?_ h1 h2⟩) H1 f1
    exact (List.getElem?_eq_some_iff.mp h1).1
end

end LX
namespace LX
open PySem PySem.Spec PyProof.Rows L2 NdefX
set_option hygiene false in
local macro_rules | `(tactic| k_memK) => `(tactic| first | exact W.na_Comparison_one | exact W.na_Comparison_other | exact W.na_Comparison_there | exact W.na_Comparison_back | exact W.na_Comparison_first | exact W.na_Store_room | exact W.na_Store_entries | exact W.na_Store_words | exact W.na_Store__places | exact W.na_Store__least | exact W.na_Space_store | exact W.na_Space_pressure | exact W.na_Space_always | exact W.na_Space_allocations | exact W.na_Space_collections | exact W.na_Space__roots | exact W.na_Space__held | exact W.na_Space__saved)
set_option hygiene false in
local macro_rules | `(tactic| k_ownIn) => `(tactic| first | exact W.C_Comparison | exact W.C_Store | exact W.C_Space)
local macro_rules | `(tactic| none_booked) => `(tactic| first | assumption | (refine Fr.g0 (by assumption) ?_; none_booked))
local macro_rules | `(tactic| one_sign) => `(tactic| repeat (first
  | refine Stp.h ?_
  | ((with_reducible refine' z_fld1 ?k0 ?k1 ?k2 ?k3 ?_); (case k0 => none_booked); (case k1 => k_ownIn); (case k2 => k_memK); (case k3 => rfl))
  | ((with_reducible refine' z_meth1 ?k0 ?k1 ?_); (case k0 => none_booked); (case k1 => rfl))
  | ((with_reducible refine' z_bmL ?k0 ?_); (case k0 => none_booked))
  | ((with_reducible refine' z_lenL ?k0 ?_); (case k0 => none_booked))
  | ((with_reducible refine' z_lenT ?k0 ?_); (case k0 => none_booked))
  | ((with_reducible refine' z_lenD ?k0 ?_); (case k0 => none_booked))
  | ((with_reducible refine' z_truL ?k0 ?_); (case k0 => none_booked))
  | ((with_reducible refine' z_truD ?k0 ?_); (case k0 => none_booked))
  | ((with_reducible refine' z_truT ?k0 ?_); (case k0 => none_booked))
  | ((with_reducible refine' z_inDIP ?k0 ?_); (case k0 => none_booked))
  | ((with_reducible refine' z_inDIN ?k0 ?_); (case k0 => none_booked))
  | ((with_reducible refine' z_inDfP ?k0 ?_); (case k0 => none_booked))
  | ((with_reducible refine' z_inDfN ?k0 ?_); (case k0 => none_booked))
  | ((with_reducible refine' z_iList1 ?k0 ?_); (case k0 => none_booked))
  | ((with_reducible refine' z_isi0 ?k0 ?k1 ?k2 ?_); (case k0 => exact (ClsV.ty _)); (case k1 => exact (TyX.base (TyOf.lst (by none_booked)))); (case k2 => first | exact kt_list_int | exact kt_list_bool | exact kt_list_str | exact kt_list_list | exact kt_list_tuple | exact kt_list_dict))
  | ((with_reducible refine' z_rI ?k0 ?_); (case k0 => first | exact (by decide : (0 : Int) < _) | exact ⟨by decide, by decide⟩ | exact ⟨by decide, by decide, by decide⟩ | (show (0 : Int) < _; omega)))
  | ((with_reducible refine' z_mulI ?k0 ?_); (case k0 => first | exact Or.inr ⟨by decide, by decide⟩ | exact Or.inl ⟨by decide, by decide⟩ | exact Or.inl ⟨by omega, by omega⟩ | exact Or.inr ⟨by omega, by omega⟩))))
local macro_rules | `(tactic| leaf_len) => `(tactic| (simp only [wipe, List.map_cons, List.map_nil, List.set_cons_zero, List.set_cons_succ]; one_sign; refine z_ok rfl ?_; one_sign))
theorem dPs_some (ps : List (Int × Int)) (n : Int) : (valV (dPs ps) (.inl n)).isSome = decide (n ∈ ps.map (·.1)) := by
  rw [dPs_val, Option.isSome_map, Bool.eq_iff_iff, List.find?_isSome, decide_eq_true_eq, List.mem_map]
  exact ⟨fun ⟨p, h1, h2⟩ => ⟨p, h1, of_decide_eq_true h2⟩, fun ⟨p, h1, h2⟩ => ⟨p, h1, decide_eq_true h2⟩⟩
theorem dPs_put {ps : List (Int × Int)} {p : Int × Int} (h : p.1 ∉ ps.map (·.1)) : putK (dPs ps) (.inl p.1) (.int p.2) = dPs (ps ++ [p]) := by
  rw [putK_n (by
    have := dPs_some ps p.1
    rw [decide_eq_false h] at this
    exact Option.isNone_iff_eq_none.mp (by cases e : valV (dPs ps) (.inl p.1) with
      | none => rfl
      | some v => rw [e] at this; cases this))]
  unfold dPs
  rw [List.map_append]; rfl
def swp (p : Int × Int) : Int × Int := (p.2, p.1)
section
variable {P : Program} {w : World} {K : PySem.W.Frag} {mg : Str → Option Value} {base : Heap}
def sp_phold : Sp := fun vs H Q _ => ∃ o1 o2 R1 R2 ws1 ws2 la A ps, vs = [.ref o1, .ref o2, .ref la] ∧ WL H o1 R1 ws1 ∧ WL H o2 R2 ws2 ∧ H la = some (.lst (A.map V.ref)) ∧ PrsAt H A ps ∧ ps.length ≤ 1000 ∧
  (∀ x, (x = true ↔ PairsP R1 R2 (0 :: ws1) (0 :: ws2) ps) → ∀ H', Fr [] H H' → Q (.bl x) H')
theorem ok__law_pairs_hold (W : WT P K mg base) : FnOk P w K mg base CX0 3 W.f__law_pairs_hold W.fd__law_pairs_hold ["_law_one", "_law_other", "_law_pairs"] sp_phold := by
  refine W.F__law_pairs_hold.ok sc__law_pairs_hold (fun vs H Q E h => by obtain ⟨o1, o2, R1, R2, ws1, ws2, la, As, ps, rfl, V1, V2, hla, hA, hps, k⟩ := h; rfl) (fun cdv A outer s H vs Q E hr h => ?_)
  obtain ⟨o1, o2, R1, R2, ws1, ws2, la, As, ps, rfl, V1, V2, hla, hA, hps, k⟩ := h
  have hu1 := hu_of hr
  have hu64 := hu64_of hr
  refine ⟨_, (pss_cons (ps_set (i := 3) sc__law_pairs_hold.nd rfl (by first | exact Or.inl rfl | exact Or.inr rfl) pe_dnewK)
      (pss_cons (ps_set (i := 4) sc__law_pairs_hold.nd rfl (by first | exact Or.inl rfl | exact Or.inr rfl) pe_dnewK)
      (pss_cons (ps_for PassesOwn.never rfl (pi_list (pv 2)) (pg_name (i := 5) sc__law_pairs_hold.nd rfl (by first | exact Or.inl rfl | exact Or.inr rfl)) (pss_cons (ps_if (PW.pt (pw_or (pt_cmpR (op_inU hu1) (pe_ix (ix_U hu1) (pv 5) pe_int (fun _ _ => rfl)) (pv 3) (by first | exact nomark _ | rfl)) (pw_or (pt_cmpR (op_inU hu1) (pe_ix (ix_U hu1) (pv 5) pe_int (fun _ _ => rfl)) (pv 4) (by first | exact nomark _ | rfl)) (pw_or (pt_not (pt_chain op_leU op_ltU pe_int (pe_ix (ix_U hu1) (pv 5) pe_int (fun _ _ => rfl)) (pe_callB call_lenU (by rfl) W.n_len bb_len (pa_cons (pe_ix (ix_U hu1) (pv 0) pe_int (fun _ _ => rfl)) pa_nil)))) (pw_or1 (pt_not (pt_chain op_leU op_ltU pe_int (pe_ix (ix_U hu1) (pv 5) pe_int (fun _ _ => rfl)) (pe_callB call_lenU (by rfl) W.n_len bb_len (pa_cons (pe_ix (ix_U hu1) (pv 1) pe_int (fun _ _ => rfl)) pa_nil))))))))) (pss_one (ps_ret pe_bl)) pss_nil)
      (pss_cons (ps_dput hu1 (pv 3) (pe_ix (ix_U hu1) (pv 5) pe_int (fun _ _ => rfl)) (pe_ix (ix_U hu1) (pv 5) pe_int (fun _ _ => rfl)) rfl)
      (pss_one (ps_dput hu1 (pv 4) (pe_ix (ix_U hu1) (pv 5) pe_int (fun _ _ => rfl)) (pe_ix (ix_U hu1) (pv 5) pe_int (fun _ _ => rfl)) rfl)))))
      (pss_cons (ps_if (pt_not (pt_truth (pe_call (ok__law_rows_fit W) (hr.mono (by decide)) rfl W.g__law_rows_fit W.F__law_rows_fit.kp W.b__law_rows_fit .nil pass0 (pa_cons (pv 0) (pa_cons (pv 1) (pa_cons (pv 3) (pa_cons (pe_op op_addU (pe_lst (pa_cons pe_int pa_nil)) (pe_ix (ix_U hu1) (pv 0) pe_int (fun _ _ => rfl))) (pa_cons (pe_op op_addU (pe_lst (pa_cons pe_int pa_nil)) (pe_ix (ix_U hu1) (pv 1) pe_int (fun _ _ => rfl))) pa_nil)))))) (by intro _; rfl))) (pss_one (ps_ret pe_bl)) pss_nil)
      (pss_cons (ps_lock (ps_for PassesOwn.never rfl (pi_keys (pv 3)) (pg_name (i := 6) sc__law_pairs_hold.nd rfl (by first | exact Or.inl rfl | exact Or.inr rfl)) (pss_one (ps_if (pt_not (pt_truth (pe_call (ok__law_rows_fit W) (hr.mono (by decide)) rfl W.g__law_rows_fit W.F__law_rows_fit.kp W.b__law_rows_fit .nil pass0 (pa_cons (pv 0) (pa_cons (pv 1) (pa_cons (pv 3) (pa_cons (pe_ix (ix_U hu1) (pe_ix (ix_U hu1) (pv 0) pe_int (fun _ _ => rfl)) (pv 6) (fun _ _ => rfl)) (pa_cons (pe_ix (ix_U hu1) (pe_ix (ix_U hu1) (pv 1) pe_int (fun _ _ => rfl)) (pe_ix (ix_U hu1) (pv 3) (pv 6) (fun _ _ => rfl)) (fun _ _ => rfl)) pa_nil)))))) (by intro _; rfl))) (pss_one (ps_ret pe_bl)) pss_nil))))
      (pss_one (ps_ret pe_bl))))))), ?_⟩
  refine z_start (σ := [some _, some _, some _, none, none, none, none]) rfl ?_
  one_sign
  intro D1 H1 hD1 f1 d1
  one_sign
  intro D2 H2 hD2 f2 d2
  have f12 := f1.trans f2
  have n12 : D1 ≠ D2 := ne_of_none d1 hD2
  have hD2' := f1.none hD2
  one_sign
  have hAl : (As.map V.ref).length = ps.length := by rw [List.length_map, hA.1]
  refine for_list (K := K) (a := la) (xs := As.map V.ref) (fun j σ H' => ∃ v5 v6 : Option V, σ = [some (.ref o1), some (.ref o2), some (.ref la), some (.ref D1), some (.ref D2), v5, v6] ∧ Fr [] H H' ∧ H' D1 = some (.dK (dPs (ps.take j))) ∧ H' D2 = some (.dK (dPs ((ps.take j).map swp))) ∧ ((ps.take j).map (·.1)).Nodup ∧ ((ps.take j).map (·.2)).Nodup ∧ ∀ p ∈ ps.take j, 0 ≤ p.1 ∧ p.1 < R1.length ∧ 0 ≤ p.2 ∧ p.2 < R2.length)
    ⟨_, _, rfl, f12, f2.g0 d1, d2, List.nodup_nil, List.nodup_nil, by simp⟩ (fun j σ H' _ hI => ?_) (fun j x σ H3 hx hI => ?_) (fun σ H3 hI => ?_)
  · obtain ⟨v5, v6, _, f, _⟩ := hI
    exact SqL.of (f.g0 hla)
  · obtain ⟨v5, v6, rfl, f3, e1, e2, nd1, nd2, hok⟩ := hI
    rw [List.getElem?_map] at hx
    obtain ⟨a, ha, rfl⟩ := Option.map_eq_some_iff.mp hx
    obtain ⟨p, hp⟩ : ∃ p, ps[j]? = some p := ⟨_, List.getElem?_eq_getElem (by rw [← hA.1]; exact (List.getElem?_eq_some_iff.mp ha).1)⟩
    have hpm := List.mem_of_getElem? hp
    have t3 := f3.g0 (hA.2 j a p ha hp)
    have ht : ps.take (j + 1) = ps.take j ++ [p] := by rw [List.take_succ, hp]; rfl
    one_sign
    refine z_ixT t3 rfl ?_
    one_sign
    rw [dPs_some]
    have no : ¬ (p.1 ∉ (ps.take j).map (·.1) ∧ p.2 ∉ (ps.take j).map (·.2) ∧ (0 ≤ p.1 ∧ p.1 < R1.length) ∧ (0 ≤ p.2 ∧ p.2 < R2.length)) → Q (.bl false) H3 := fun hn => k false (iff_of_false (by simp) fun hp' => hn (by
      have n1 := hp'.n1
      have n2 := hp'.n2
      have z := hp'.ok p hpm
      have s1 : ((ps.take (j + 1)).map (·.1)).Nodup := by rw [List.map_take]; exact n1.sublist (List.take_sublist _ _)
      have s2 : ((ps.take (j + 1)).map (·.2)).Nodup := by rw [List.map_take]; exact n2.sublist (List.take_sublist _ _)
      rw [ht, List.map_append] at s1 s2
      exact ⟨(nodup_snoc.mp s1).2, (nodup_snoc.mp s2).2, ⟨z.1, z.2.1⟩, z.2.2.1, z.2.2.2⟩)) H3 f3
    refine iteD (fun h1 => ?_) (fun h1 => ?_)
    · one_sign
      exact no fun z => z.1 h1
    one_sign
    refine z_ixT t3 rfl ?_
    one_sign
    have hsw : ((ps.take j).map swp).map (·.1) = (ps.take j).map (·.2) := by rw [List.map_map]; rfl
    rw [dPs_some, hsw]
    refine iteD (fun h2 => ?_) (fun h2 => ?_)
    · one_sign
      exact no fun z => z.2.1 h2
    one_sign
    refine z_ixT t3 rfl ?_
    one_sign
    have V13 := V1.keep f3
    have V23 := V2.keep f3
    obtain ⟨ra1, wa1, A1, hw1, L1⟩ := V13
    obtain ⟨ra2, wa2, A2, hw2, L2⟩ := V23
    have hr1 := L1.ra
    have hr2 := L2.ra
    by_cases h3 : 0 ≤ p.1
    case neg =>
      rw [decide_eq_false h3]
      refine iteF ?_
      one_sign
      exact no fun z => h3 z.2.2.1.1
    rw [decide_eq_true h3]
    refine iteT ?_
    one_sign
    refine z_ixT hw1 rfl ?_
    one_sign
    rw [List.length_map, L1.rows.len]
    refine iteND (fun h4 => ?_) (fun h4 => ?_)
    · one_sign
      exact no fun z => h4 z.2.2.1.2
    one_sign
    refine z_ixT t3 rfl ?_
    one_sign
    by_cases h5 : 0 ≤ p.2
    case neg =>
      rw [decide_eq_false h5]
      refine iteF ?_
      one_sign
      exact no fun z => h5 z.2.2.2.1
    rw [decide_eq_true h5]
    refine iteT ?_
    one_sign
    refine z_ixT hw2 rfl ?_
    one_sign
    rw [List.length_map, L2.rows.len]
    refine iteND (fun h6 => ?_) (fun h6 => ?_)
    · one_sign
      exact no fun z => h6 z.2.2.2.2
    have hjl : (ps.take j).length ≤ 1000 := by rw [List.length_take]; omega
    one_sign
    refine z_ixT t3 rfl ?_
    one_sign
    refine z_ixT t3 rfl ?_
    one_sign
    refine z_dputI e1 (by unfold dPs; rw [List.length_map, sizeLine_eq]; omega) fun H4 f4 e14 n4 => ?_
    rw [dPs_put h1, ← ht] at e14
    have e24 := f4.g e2 (nin n12.symm)
    have f04 := f3.in f4 hD1
    have t4 := f04.g0 (hA.2 j a p ha hp)
    one_sign
    refine z_ixT t4 rfl ?_
    one_sign
    refine z_ixT t4 rfl ?_
    one_sign
    refine z_dputI e24 (by unfold dPs; rw [List.length_map, List.length_map, sizeLine_eq]; omega) fun H5 f5 e25 n5 => ?_
    have f05 := f04.in f5 hD2'
    refine ⟨_, _, rfl, f05, f5.g e14 (nin n12), ?_, ?_, ?_, fun q hq => ?_⟩
    · have := dPs_put (ps := (ps.take j).map swp) (p := swp p) (by rw [hsw]; exact h2)
      rw [e25, ht, List.map_append]
      exact congrArg (fun z => some (HO.dK z)) this
    · rw [ht, List.map_append]; exact nodup_snoc.mpr ⟨nd1, h1⟩
    · rw [ht, List.map_append]; exact nodup_snoc.mpr ⟨nd2, h2⟩
    · rw [ht] at hq
      rcases List.mem_append.mp hq with hq | hq
      · exact hok q hq
      · rw [List.mem_singleton.mp hq]; exact ⟨h3, h4, h5, h6⟩
  · obtain ⟨v5, v6, rfl, f3, e1, e2, nd1, nd2, hok⟩ := hI
    rw [hAl, List.take_length] at e1 e2 nd1 nd2 hok
    have V13 := V1.keep f3
    have V23 := V2.keep f3
    obtain ⟨ra1, wa1, A1, hw1, L1⟩ := V13
    obtain ⟨ra2, wa2, A2, hw2, L2⟩ := V23
    one_sign
    refine z_newL (by show 1 ≤ sizeLine; decide) fun q1 H4 hq1 f4 q14 => ?_
    one_sign
    refine z_ixT (f4.g0 hw1) rfl ?_
    one_sign
    refine z_addL q14 (f4.g0 L1.wa) (by rw [List.length_map, sizeLine_eq]; have := L1.lw; show 1 + ws1.length ≤ _; omega) fun q2 H5 hq2 f5 q25 => ?_
    one_sign
    refine z_newL (by show 1 ≤ sizeLine; decide) fun q3 H6 hq3 f6 q36 => ?_
    one_sign
    have f46 := (f4.trans f5).trans f6
    refine z_ixT (f46.g0 hw2) rfl ?_
    one_sign
    refine z_addL q36 (f46.g0 L2.wa) (by rw [List.length_map, sizeLine_eq]; have := L2.lw; show 1 + ws2.length ≤ _; omega) fun q4 H7 hq4 f7 q47 => ?_
    one_sign
    have f47 := f46.trans f7
    have f07 := f3.trans f47
    refine ⟨o1, o2, R1, R2, ws1, ws2, D1, q2, q4, ps, 0 :: ws1, 0 :: ws2, rfl, V1.keep f07, V2.keep f07, nd1, f7.g0 (f6.g0 q25), q47, L1.e0, L2.e0, by rw [List.length_cons]; have := L1.lw; omega, .inl (f47.g0 e1), fun b hb H8 f8 => ?_⟩
    have f38 := f47.trans f8
    have f08 := f3.trans f38
    one_sign
    cases b with
    | false =>
      refine iteT ?_
      one_sign
      exact k false (iff_of_false (by simp) fun hp => by have := hb.mpr hp.rt; cases this) H8 f08
    | true =>
      refine iteF ?_
      have hrt := hb.mp rfl
      have d8 := f38.g0 e1
      one_sign
      refine z_forK (td := tVar 3) [] (by simp) (fun H' R h => ⟨_, rfl, h⟩) d8 (fun i σ H' => ∃ v6, σ = [some (.ref o1), some (.ref o2), some (.ref la), some (.ref D1), some (.ref D2), v5, v6] ∧ ∀ (j : Nat) p, j < i → ps[j]? = some p → fitRows R1 R2 ps (rowN R1 p.1) (rowN R2 p.2)) (fun od HF L => ⟨_, rfl, fun j p h => by omega⟩) (fun od HF i kk v σ H9 Lk hk hi hI f9 hd9 => ?_) (fun σ H9 H10 hI f10 d10 f810 => ?_)
      · obtain ⟨v6, rfl, hfit⟩ := hI
        have hk' := hk
        unfold dPs at hk'
        rw [List.getElem?_map] at hk'
        obtain ⟨p, hp, ep⟩ := Option.map_eq_some_iff.mp hk'
        cases ep
        have hpm := List.mem_of_getElem? hp
        have z := hok p hpm
        have f09 : Fr [] H H9 := (f08.in Lk.f hD1).trans f9
        have V19 := V1.keep f09
        have V29 := V2.keep f09
        obtain ⟨ra3, wa3, A3, hw3, L3⟩ := V19
        obtain ⟨ra4, wa4, A4, hw4, L4⟩ := V29
        have hdx : DAt H9 D1 (dPs ps) := .inr ⟨od, hd9⟩
        obtain ⟨x1, hx1⟩ : ∃ a, A3[p.1.toNat]? = some a := ⟨_, List.getElem?_eq_getElem (by rw [L3.rows.len]; omega)⟩
        obtain ⟨x2, hx2⟩ : ∃ a, A4[p.2.toNat]? = some a := ⟨_, List.getElem?_eq_getElem (by rw [L4.rows.len]; omega)⟩
        have m1 := row_of z.1 z.2.1
        have m2 := row_of z.2.2.1 z.2.2.2
        show gName 6 (V.int p.1) _ _ _
        one_sign
        refine z_ixT hw3 rfl ?_
        one_sign
        refine z_ixL L3.ra (by rw [show p.1 = (p.1.toNat : Int) by omega]; exact atI_nat (ref_at hx1)) ?_
        one_sign
        refine z_ixT hw4 rfl ?_
        one_sign
        refine z_ixX hdx ((dPs_at nd1).mp hpm) ?_
        one_sign
        refine z_ixL L4.ra (by rw [show p.2 = (p.2.toNat : Int) by omega]; exact atI_nat (ref_at hx2)) ?_
        one_sign
        refine ⟨o1, o2, R1, R2, ws1, ws2, D1, x1, x2, ps, rowN R1 p.1, rowN R2 p.2, rfl, V1.keep f09, V2.keep f09, nd1, L3.rows.it _ _ _ hx1 m1, L4.rows.it _ _ _ hx2 m2, L3.eR _ (List.mem_of_getElem? m1), L4.eR _ (List.mem_of_getElem? m2), by have := L3.lr _ (List.mem_of_getElem? m1); omega, hdx, fun b hb H10 f10 => ?_⟩
        have f910 := f9.trans f10
        one_sign
        cases b with
        | false =>
          refine iteT ?_
          one_sign
          exact z_fkR Lk (by simp) f910 fun H11 f11 f811 => k false (iff_of_false (by simp) fun hp' => by have := hb.mpr (hp'.rw' p hpm); cases this) H11 (f08.trans f811)
        | true =>
          refine iteF ?_
          one_sign
          refine And.intro ?_ f910
          refine ⟨_, rfl, fun j p' hj hp' => ?_⟩
          rcases Nat.lt_or_ge j i with hji | hji
          · exact hfit j p' hji hp'
          · obtain rfl : j = i := by omega
            rw [hp] at hp'
            cases hp'
            exact hb.mp rfl
      · obtain ⟨v6, rfl, hfit⟩ := hI
        one_sign
        refine k true (iff_of_true rfl ⟨nd1, nd2, hok, hrt, fun p hpm => ?_⟩) H10 (f08.trans f810)
        obtain ⟨j, hj⟩ := List.mem_iff_getElem?.mp hpm
        exact hfit j p (by rw [show (dPs ps).length = ps.length from List.length_map _]; exact (List.getElem?_eq_some_iff.mp hj).1) hj
end

end LX
namespace LX
open PySem PySem.Spec PyProof.Rows L2 NdefX
set_option hygiene false in
local macro_rules | `(tactic| k_memK) => `(tactic| first | exact W.na_Comparison_one | exact W.na_Comparison_other | exact W.na_Comparison_there | exact W.na_Comparison_back | exact W.na_Comparison_first | exact W.na_Store_room | exact W.na_Store_entries | exact W.na_Store_words | exact W.na_Store__places | exact W.na_Store__least | exact W.na_Space_store | exact W.na_Space_pressure | exact W.na_Space_always | exact W.na_Space_allocations | exact W.na_Space_collections | exact W.na_Space__roots | exact W.na_Space__held | exact W.na_Space__saved)
set_option hygiene false in
local macro_rules | `(tactic| k_ownIn) => `(tactic| first | exact W.C_Comparison | exact W.C_Store | exact W.C_Space)
local macro_rules | `(tactic| none_booked) => `(tactic| first | assumption | (refine Fr.g0 (by assumption) ?_; none_booked))
local macro_rules | `(tactic| one_sign) => `(tactic| repeat (first
  | refine Stp.h ?_
  | ((with_reducible refine' z_fld1 ?k0 ?k1 ?k2 ?k3 ?_); (case k0 => none_booked); (case k1 => k_ownIn); (case k2 => k_memK); (case k3 => rfl))
  | ((with_reducible refine' z_meth1 ?k0 ?k1 ?_); (case k0 => none_booked); (case k1 => rfl))
  | ((with_reducible refine' z_bmL ?k0 ?_); (case k0 => none_booked))
  | ((with_reducible refine' z_lenL ?k0 ?_); (case k0 => none_booked))
  | ((with_reducible refine' z_lenT ?k0 ?_); (case k0 => none_booked))
  | ((with_reducible refine' z_lenD ?k0 ?_); (case k0 => none_booked))
  | ((with_reducible refine' z_truL ?k0 ?_); (case k0 => none_booked))
  | ((with_reducible refine' z_truD ?k0 ?_); (case k0 => none_booked))
  | ((with_reducible refine' z_truT ?k0 ?_); (case k0 => none_booked))
  | ((with_reducible refine' z_inDIP ?k0 ?_); (case k0 => none_booked))
  | ((with_reducible refine' z_inDIN ?k0 ?_); (case k0 => none_booked))
  | ((with_reducible refine' z_inDfP ?k0 ?_); (case k0 => none_booked))
  | ((with_reducible refine' z_inDfN ?k0 ?_); (case k0 => none_booked))
  | ((with_reducible refine' z_iList1 ?k0 ?_); (case k0 => none_booked))
  | ((with_reducible refine' z_isi0 ?k0 ?k1 ?k2 ?_); (case k0 => exact (ClsV.ty _)); (case k1 => exact (TyX.base (TyOf.lst (by none_booked)))); (case k2 => first | exact kt_list_int | exact kt_list_bool | exact kt_list_str | exact kt_list_list | exact kt_list_tuple | exact kt_list_dict))
  | ((with_reducible refine' z_rI ?k0 ?_); (case k0 => first | exact (by decide : (0 : Int) < _) | exact ⟨by decide, by decide⟩ | exact ⟨by decide, by decide, by decide⟩ | (show (0 : Int) < _; omega)))
  | ((with_reducible refine' z_mulI ?k0 ?_); (case k0 => first | exact Or.inr ⟨by decide, by decide⟩ | exact Or.inl ⟨by decide, by decide⟩ | exact Or.inl ⟨by omega, by omega⟩ | exact Or.inr ⟨by omega, by omega⟩))))
local macro_rules | `(tactic| leaf_len) => `(tactic| (simp only [wipe, List.map_cons, List.map_nil, List.set_cons_zero, List.set_cons_succ]; one_sign; refine z_ok rfl ?_; one_sign))

theorem walkW_evn {R : List (List Int)} {r0 : List Int} (hR : ∀ r ∈ R, ∀ x ∈ r, Evn x) (h0 : ∀ x ∈ r0, Evn x) {p : List Int} {w : Int} (h : walkW R r0 p = some w) : Evn w := walkS_evn hR h0 (walkS_of h)
section
variable {P : Program} {w : World} {K : PySem.W.Frag} {mg : Str → Option Value} {base : Heap}
def sp_holds : Sp := fun vs H Q _ => ∃ o1 o2 R1 R2 ws1 ws2 t v, vs = [.ref o1, .ref o2, .ref t] ∧ WL H o1 R1 ws1 ∧ WL H o2 R2 ws2 ∧ VdAt H t v ∧ VdB v ∧
  (∀ x, (x = true ↔ Hold R1 R2 (0 :: ws1) (0 :: ws2) v) → ∀ H', Fr [] H H' → Q (.bl x) H')
theorem ok__law_holds (W : WT P K mg base) : FnOk P w K mg base CX0 4 W.f__law_holds W.fd__law_holds ["_law_one", "_law_other", "_law_verdict_here"] sp_holds := by
  refine W.F__law_holds.ok sc__law_holds (fun vs H Q E h => by obtain ⟨o1, o2, R1, R2, ws1, ws2, t, v, rfl, V1, V2, hv, hb, k⟩ := h; rfl) (fun cdv A outer s H vs Q E hr h => ?_)
  obtain ⟨o1, o2, R1, R2, ws1, ws2, t, v, rfl, V1, V2, hv, hb, k⟩ := h
  have hu1 := hu_of hr
  have hu64 := hu64_of hr
  refine ⟨_, (pss_cons (ps_if (pt_cmpR (op_eqU hu64) (pe_ix (ix_U hu1) (pv 2) pe_int (fun _ _ => rfl)) (pe_strT (show (PySem.Str.ofString "alike") = T [97, 108, 105, 107, 101] by decide +kernel)) (by first | exact nomark _ | rfl)) (pss_one (ps_ret (pe_call (ok__law_pairs_hold W) (hr.mono (by decide)) rfl W.g__law_pairs_hold W.F__law_pairs_hold.kp W.b__law_pairs_hold .nil pass0 (pa_cons (pv 0) (pa_cons (pv 1) (pa_cons (pe_ix (ix_U hu1) (pv 2) pe_int (fun _ _ => rfl)) pa_nil)))))) pss_nil)
      (pss_cons (ps_if (pt_cmpR (op_eqU hu64) (pe_ix (ix_U hu1) (pv 2) pe_int (fun _ _ => rfl)) (pe_strT (show (PySem.Str.ofString "held") = T [104, 101, 108, 100] by decide +kernel)) (by first | exact nomark _ | rfl)) (pss_one (ps_ret (pe_cmpR (op_neU hu64) (pe_callB call_lenU (by rfl) W.n_len bb_len (pa_cons (pe_ix (ix_U hu1) (pv 0) pe_int (fun _ _ => rfl)) pa_nil)) (pe_callB call_lenU (by rfl) W.n_len bb_len (pa_cons (pe_ix (ix_U hu1) (pv 1) pe_int (fun _ _ => rfl)) pa_nil)) (by first | exact nomark _ | rfl)))) pss_nil)
      (pss_cons (ps_set (i := 3) sc__law_holds.nd rfl (by first | exact Or.inl rfl | exact Or.inr rfl) (pe_lst (pa_cons (pe_call (ok__law_walk W) (hr.mono (by decide)) rfl W.g__law_walk W.F__law_walk.kp W.b__law_walk .nil pass0 (pa_cons (pv 0) (pa_cons (pe_ix (ix_U hu1) (pv 2) pe_int (fun _ _ => rfl)) pa_nil))) (pa_cons (pe_call (ok__law_walk W) (hr.mono (by decide)) rfl W.g__law_walk W.F__law_walk.kp W.b__law_walk .nil pass0 (pa_cons (pv 1) (pa_cons (pe_ix (ix_U hu1) (pv 2) pe_int (fun _ _ => rfl)) pa_nil))) pa_nil))))
      (pss_cons (ps_if (PW.pt (pw_or (pt_cmpR op_isU (pe_ix (ix_U hu1) (pv 3) pe_int (fun _ _ => rfl)) pe_non (by first | exact nomark _ | rfl)) (pw_or1 (pt_cmpR op_isU (pe_ix (ix_U hu1) (pv 3) pe_int (fun _ _ => rfl)) pe_non (by first | exact nomark _ | rfl))))) (pss_one (ps_ret pe_bl)) pss_nil)
      (pss_cons (ps_set (i := 4) sc__law_holds.nd rfl (by first | exact Or.inl rfl | exact Or.inr rfl) (pe_call (ok__law_thing W) (hr.mono (by decide)) rfl W.g__law_thing W.F__law_thing.kp W.b__law_thing .nil pass0 (pa_cons (pv 0) (pa_cons (pe_ix (ix_U hu1) (pv 3) pe_int (fun _ _ => rfl)) pa_nil))))
      (pss_cons (ps_set (i := 5) sc__law_holds.nd rfl (by first | exact Or.inl rfl | exact Or.inr rfl) (pe_call (ok__law_thing W) (hr.mono (by decide)) rfl W.g__law_thing W.F__law_thing.kp W.b__law_thing .nil pass0 (pa_cons (pv 1) (pa_cons (pe_ix (ix_U hu1) (pv 3) pe_int (fun _ _ => rfl)) pa_nil))))
      (pss_cons (ps_if (pt_cmpR (op_eqU hu64) (pe_ix (ix_U hu1) (pv 2) pe_int (fun _ _ => rfl)) (pe_strT (show (PySem.Str.ofString "word") = T [119, 111, 114, 100] by decide +kernel)) (by first | exact nomark _ | rfl)) (pss_one (ps_ret (pe_and (pe_or (pe_cmpR op_isU (pv 4) pe_non (by first | exact nomark _ | rfl)) (pe_one (pe_cmpR op_isU (pv 5) pe_non (by first | exact nomark _ | rfl)))) (pe_one (pe_or (pe_cmpR op_isnotU (pv 4) pe_non (by first | exact nomark _ | rfl)) (pe_or (pe_cmpR op_isnotU (pv 5) pe_non (by first | exact nomark _ | rfl)) (pe_one (pe_cmpR (op_neU hu64) (pe_ix (ix_U hu1) (pv 3) pe_int (fun _ _ => rfl)) (pe_ix (ix_U hu1) (pv 3) pe_int (fun _ _ => rfl)) (by first | exact nomark _ | rfl))))))))) pss_nil)
      (pss_cons (ps_if (PW.pt (pw_or (pt_cmpR op_isU (pv 4) pe_non (by first | exact nomark _ | rfl)) (pw_or1 (pt_cmpR op_isU (pv 5) pe_non (by first | exact nomark _ | rfl))))) (pss_one (ps_ret pe_bl)) pss_nil)
      (pss_cons (ps_if (pt_cmpR (op_eqU hu64) (pe_ix (ix_U hu1) (pv 2) pe_int (fun _ _ => rfl)) (pe_strT (show (PySem.Str.ofString "size") = T [115, 105, 122, 101] by decide +kernel)) (by first | exact nomark _ | rfl)) (pss_one (ps_ret (pe_cmpR (op_neU hu64) (pe_callB call_lenU (by rfl) W.n_len bb_len (pa_cons (pe_ix (ix_U hu1) (pe_ix (ix_U hu1) (pv 0) pe_int (fun _ _ => rfl)) (pv 4) (fun _ _ => rfl)) pa_nil)) (pe_callB call_lenU (by rfl) W.n_len bb_len (pa_cons (pe_ix (ix_U hu1) (pe_ix (ix_U hu1) (pv 1) pe_int (fun _ _ => rfl)) (pv 5) (fun _ _ => rfl)) pa_nil)) (by first | exact nomark _ | rfl)))) pss_nil)
      (pss_cons (ps_set (i := 6) sc__law_holds.nd rfl (by first | exact Or.inl rfl | exact Or.inr rfl) (pe_call (ok__law_thing W) (hr.mono (by decide)) rfl W.g__law_thing W.F__law_thing.kp W.b__law_thing .nil pass0 (pa_cons (pv 0) (pa_cons (pe_call (ok__law_walk W) (hr.mono (by decide)) rfl W.g__law_walk W.F__law_walk.kp W.b__law_walk .nil pass0 (pa_cons (pv 0) (pa_cons (pe_ix (ix_U hu1) (pv 2) pe_int (fun _ _ => rfl)) pa_nil))) pa_nil))))
      (pss_cons (ps_set (i := 7) sc__law_holds.nd rfl (by first | exact Or.inl rfl | exact Or.inr rfl) (pe_call (ok__law_thing W) (hr.mono (by decide)) rfl W.g__law_thing W.F__law_thing.kp W.b__law_thing .nil pass0 (pa_cons (pv 1) (pa_cons (pe_call (ok__law_walk W) (hr.mono (by decide)) rfl W.g__law_walk W.F__law_walk.kp W.b__law_walk .nil pass0 (pa_cons (pv 1) (pa_cons (pe_ix (ix_U hu1) (pv 2) pe_int (fun _ _ => rfl)) pa_nil))) pa_nil))))
      (pss_one (ps_ret (pe_and (pe_cmpR op_isnotU (pv 6) pe_non (by first | exact nomark _ | rfl)) (pe_and (pe_cmpR op_isnotU (pv 7) pe_non (by first | exact nomark _ | rfl)) (pe_one (pe_cmpR (op_neU hu64) (pe_cmpR (op_eqU hu64) (pv 4) (pv 6) (by first | exact nomark _ | rfl)) (pe_cmpR (op_eqU hu64) (pv 5) (pv 7) (by first | exact nomark _ | rfl)) (by first | exact nomark _ | rfl)))))))))))))))))), ?_⟩
  refine z_start (σ := [some _, some _, some _, none, none, none, none, none]) rfl ?_
  one_sign
  have V1' := V1
  have V2' := V2
  obtain ⟨ra1, wa1, A1, hw1, L1⟩ := V1'
  obtain ⟨ra2, wa2, A2, hw2, L2⟩ := V2'
  have hwa1 := L1.wa
  have hwa2 := L2.wa
  cases v with
  | held =>
    have hv : H t = some (.tup [.str sHELD]) := hv
    refine z_ixT hv rfl ?_
    one_sign
    refine ifF (by decide +kernel) ?_
    one_sign
    refine z_ixT hv rfl ?_
    one_sign
    refine ifT (by decide +kernel) ?_
    one_sign
    refine z_ixT hw1 rfl ?_
    one_sign
    refine z_ixT hw2 rfl ?_
    one_sign
    refine k _ ?_ H Fr.rfl'
    rw [Bool.not_eq_true', decide_eq_false_iff_not]
    show _ ↔ (0 :: ws1).length ≠ (0 :: ws2).length
    refine not_congr ?_
    rw [List.length_map, List.length_map, List.length_cons, List.length_cons]
    omega
  | alike ps =>
    obtain ⟨l, As, hv, hl, hA⟩ := hv
    refine z_ixT hv rfl ?_
    one_sign
    refine ifT (by decide +kernel) ?_
    one_sign
    refine z_ixT hv rfl ?_
    one_sign
    exact ⟨o1, o2, R1, R2, ws1, ws2, l, As, ps, rfl, V1, V2, hl, hA, hb, fun b hh H' f => k b hh H' f⟩
  | word p =>
    obtain ⟨pa, hv, hp⟩ := hv
    have hb' : p.length ≤ 1000 := hb
    refine z_ixT hv rfl ?_
    one_sign
    refine ifF (by decide +kernel) ?_
    one_sign
    refine z_ixT hv rfl ?_
    one_sign
    refine ifF (by decide +kernel) ?_
    one_sign
    refine z_ixT hv rfl ?_
    one_sign
    refine ⟨o1, pa, R1, ws1, p, rfl, V1, .inr hp, hb', fun H1 f1 => ?_⟩
    one_sign
    refine z_ixT (f1.g0 hv) rfl ?_
    one_sign
    refine ⟨o2, pa, R2, ws2, p, rfl, V2.keep f1, .inr (f1.g0 hp), hb', fun H2 f2 => ?_⟩
    one_sign
    refine z_newL (by show 2 ≤ sizeLine; decide) fun wl H3 hwl f3 wl3 => ?_
    have f13 := (f1.trans f2).trans f3
    have hv := f13.g0 hv
    one_sign
    refine z_ixL wl3 rfl ?_
    one_sign
    cases e1 : walkW R1 (0 :: ws1) p with
    | none =>
      rw [e1] at wl3
      simp only [optV]
      one_sign
      exact k false (iff_of_false (by simp) (by rintro ⟨w1, w2, h1, h2, _⟩; simp_all)) H3 f13
    | some a =>
    rw [e1] at wl3
    simp only [optV]
    refine iteF ?_
    one_sign
    refine z_ixL wl3 rfl ?_
    one_sign
    cases e2 : walkW R2 (0 :: ws2) p with
    | none =>
      rw [e2] at wl3
      simp only [optV]
      one_sign
      exact k false (iff_of_false (by simp) (by rintro ⟨w1, w2, h1, h2, _⟩; simp_all)) H3 f13
    | some b =>
    rw [e2] at wl3
    simp only [optV] at wl3 ⊢
    refine iteF ?_
    one_sign
    refine z_ixL wl3 rfl ?_
    one_sign
    have ea := walkW_evn L1.eR L1.e0 e1
    have eb := walkW_evn L2.eR L2.e0 e2
    refine z_call_thing (V1.keep f13) ea ?_
    one_sign
    refine z_ixL wl3 rfl ?_
    one_sign
    refine z_call_thing (V2.keep f13) eb ?_
    have hiff : ∀ x : Bool, (x = true ↔ (objN R1 a = none ∨ objN R2 b = none) ∧ ((objN R1 a).isSome = true ∨ (objN R2 b).isSome = true ∨ a ≠ b)) → (x = true ↔ Hold R1 R2 (0 :: ws1) (0 :: ws2) (.word p)) := fun x hx => hx.trans ⟨fun h => ⟨a, b, e1, e2, h.1, h.2⟩, fun ⟨w1, w2, h1, h2, h3, h4⟩ => by rw [e1] at h1; rw [e2] at h2; cases h1; cases h2; exact ⟨h3, h4⟩⟩
    cases h1 : objN R1 a with
    | none =>
      cases h2 : objN R2 b with
      | none =>
        rw [h1, h2] at hiff
        simp only [optV]
        one_sign
        refine z_ixT hv rfl ?_
        one_sign
        refine ifT (by decide +kernel) ?_
        one_sign
        refine z_ixL wl3 rfl ?_
        one_sign
        refine z_ixL wl3 rfl ?_
        one_sign
        exact k _ (hiff _ (by simp)) H3 f13
      | some m =>
        rw [h1, h2] at hiff
        simp only [optV]
        one_sign
        refine z_ixT hv rfl ?_
        one_sign
        refine ifT (by decide +kernel) ?_
        one_sign
        exact k _ (hiff _ (by simp)) H3 f13
    | some n =>
      cases h2 : objN R2 b with
      | none =>
        rw [h1, h2] at hiff
        simp only [optV]
        one_sign
        refine z_ixT hv rfl ?_
        one_sign
        refine ifT (by decide +kernel) ?_
        one_sign
        exact k _ (hiff _ (by simp)) H3 f13
      | some m =>
        rw [h1, h2] at hiff
        simp only [optV]
        one_sign
        refine z_ixT hv rfl ?_
        one_sign
        refine ifT (by decide +kernel) ?_
        one_sign
        exact k _ (hiff _ (by simp)) H3 f13
  | size p =>
    obtain ⟨pa, hv, hp⟩ := hv
    have hb' : p.length ≤ 1000 := hb
    refine z_ixT hv rfl ?_
    one_sign
    refine ifF (by decide +kernel) ?_
    one_sign
    refine z_ixT hv rfl ?_
    one_sign
    refine ifF (by decide +kernel) ?_
    one_sign
    refine z_ixT hv rfl ?_
    one_sign
    refine ⟨o1, pa, R1, ws1, p, rfl, V1, .inr hp, hb', fun H1 f1 => ?_⟩
    one_sign
    refine z_ixT (f1.g0 hv) rfl ?_
    one_sign
    refine ⟨o2, pa, R2, ws2, p, rfl, V2.keep f1, .inr (f1.g0 hp), hb', fun H2 f2 => ?_⟩
    one_sign
    refine z_newL (by show 2 ≤ sizeLine; decide) fun wl H3 hwl f3 wl3 => ?_
    have f13 := (f1.trans f2).trans f3
    have hv := f13.g0 hv
    one_sign
    refine z_ixL wl3 rfl ?_
    one_sign
    cases e1 : walkW R1 (0 :: ws1) p with
    | none =>
      rw [e1] at wl3
      simp only [optV]
      one_sign
      exact k false (iff_of_false (by simp) (by rintro ⟨w1, w2, n, m, h1, h2, _⟩; simp_all)) H3 f13
    | some a =>
    rw [e1] at wl3
    simp only [optV]
    refine iteF ?_
    one_sign
    refine z_ixL wl3 rfl ?_
    one_sign
    cases e2 : walkW R2 (0 :: ws2) p with
    | none =>
      rw [e2] at wl3
      simp only [optV]
      one_sign
      exact k false (iff_of_false (by simp) (by rintro ⟨w1, w2, n, m, h1, h2, _⟩; simp_all)) H3 f13
    | some b =>
    rw [e2] at wl3
    simp only [optV] at wl3 ⊢
    refine iteF ?_
    one_sign
    refine z_ixL wl3 rfl ?_
    one_sign
    have ea := walkW_evn L1.eR L1.e0 e1
    have eb := walkW_evn L2.eR L2.e0 e2
    refine z_call_thing (V1.keep f13) ea ?_
    one_sign
    refine z_ixL wl3 rfl ?_
    one_sign
    refine z_call_thing (V2.keep f13) eb ?_
    cases h1 : objN R1 a with
    | none =>
      simp only [optV]
      one_sign
      refine z_ixT hv rfl ?_
      one_sign
      refine ifF (by decide +kernel) ?_
      one_sign
      exact k false (iff_of_false (by simp) (by rintro ⟨w1, w2, n, m, g1, g2, g3, g4, _⟩; simp_all)) H3 f13
    | some n =>
    cases h2 : objN R2 b with
    | none =>
      simp only [optV]
      one_sign
      refine z_ixT hv rfl ?_
      one_sign
      refine ifF (by decide +kernel) ?_
      one_sign
      exact k false (iff_of_false (by simp) (by rintro ⟨w1, w2, n, m, g1, g2, g3, g4, _⟩; simp_all)) H3 f13
    | some m =>
    simp only [optV]
    one_sign
    refine z_ixT hv rfl ?_
    one_sign
    refine ifF (by decide +kernel) ?_
    one_sign
    refine z_ixT hv rfl ?_
    one_sign
    refine ifT (by decide +kernel) ?_
    obtain ⟨-, -, n0, n1⟩ := objN_ok h1
    obtain ⟨-, -, m0, m1⟩ := objN_ok h2
    obtain ⟨x1, hx1⟩ : ∃ a, A1[n.toNat]? = some a := ⟨_, List.getElem?_eq_getElem (by rw [L1.rows.len]; omega)⟩
    obtain ⟨x2, hx2⟩ : ∃ a, A2[m.toNat]? = some a := ⟨_, List.getElem?_eq_getElem (by rw [L2.rows.len]; omega)⟩
    have q1 := f13.g0 (L1.rows.it _ _ _ hx1 (row_of n0 n1))
    have q2 := f13.g0 (L2.rows.it _ _ _ hx2 (row_of m0 m1))
    have hw13 := f13.g0 hw1
    have hw23 := f13.g0 hw2
    one_sign
    refine z_ixT hw13 rfl ?_
    one_sign
    refine z_ixL (f13.g0 L1.ra) (by rw [show n = (n.toNat : Int) by omega]; exact atI_nat (ref_at hx1)) ?_
    one_sign
    refine z_ixT hw23 rfl ?_
    one_sign
    refine z_ixL (f13.g0 L2.ra) (by rw [show m = (m.toNat : Int) by omega]; exact atI_nat (ref_at hx2)) ?_
    one_sign
    refine k _ ?_ H3 f13
    rw [List.length_map, List.length_map]
    have : (!decide (((rowN R1 n).length : Int) = ((rowN R2 m).length : Int))) = true ↔ (rowN R1 n).length ≠ (rowN R2 m).length := by
      rw [Bool.not_eq_true', decide_eq_false_iff_not]
      exact not_congr (by omega)
    refine this.trans ⟨fun h => ⟨a, b, n, m, e1, e2, h1, h2, h⟩, fun ⟨w1, w2, n', m', g1, g2, g3, g4, g5⟩ => ?_⟩
    rw [e1] at g1; rw [e2] at g2; cases g1; cases g2
    rw [h1] at g3; rw [h2] at g4; cases g3; cases g4
    exact g5
  | same p q =>
    obtain ⟨pa, qa, hv, hp, hq⟩ := hv
    have hb' : p.length ≤ 1000 := hb.1
    have hbq : q.length ≤ 1000 := hb.2
    refine z_ixT hv rfl ?_
    one_sign
    refine ifF (by decide +kernel) ?_
    one_sign
    refine z_ixT hv rfl ?_
    one_sign
    refine ifF (by decide +kernel) ?_
    one_sign
    refine z_ixT hv rfl ?_
    one_sign
    refine ⟨o1, pa, R1, ws1, p, rfl, V1, .inr hp, hb', fun H1 f1 => ?_⟩
    one_sign
    refine z_ixT (f1.g0 hv) rfl ?_
    one_sign
    refine ⟨o2, pa, R2, ws2, p, rfl, V2.keep f1, .inr (f1.g0 hp), hb', fun H2 f2 => ?_⟩
    one_sign
    refine z_newL (by show 2 ≤ sizeLine; decide) fun wl H3 hwl f3 wl3 => ?_
    have f13 := (f1.trans f2).trans f3
    have hv := f13.g0 hv
    one_sign
    refine z_ixL wl3 rfl ?_
    one_sign
    cases e1 : walkW R1 (0 :: ws1) p with
    | none =>
      rw [e1] at wl3
      simp only [optV]
      one_sign
      exact k false (iff_of_false (by simp) (by rintro ⟨w1, w2, n, m, w1', w2', n', m', h1, h2, _⟩; simp_all)) H3 f13
    | some a =>
    rw [e1] at wl3
    simp only [optV]
    refine iteF ?_
    one_sign
    refine z_ixL wl3 rfl ?_
    one_sign
    cases e2 : walkW R2 (0 :: ws2) p with
    | none =>
      rw [e2] at wl3
      simp only [optV]
      one_sign
      exact k false (iff_of_false (by simp) (by rintro ⟨w1, w2, n, m, w1', w2', n', m', h1, h2, _⟩; simp_all)) H3 f13
    | some b =>
    rw [e2] at wl3
    simp only [optV] at wl3 ⊢
    refine iteF ?_
    one_sign
    refine z_ixL wl3 rfl ?_
    one_sign
    have ea := walkW_evn L1.eR L1.e0 e1
    have eb := walkW_evn L2.eR L2.e0 e2
    refine z_call_thing (V1.keep f13) ea ?_
    one_sign
    refine z_ixL wl3 rfl ?_
    one_sign
    refine z_call_thing (V2.keep f13) eb ?_
    cases h1 : objN R1 a with
    | none =>
      simp only [optV]
      one_sign
      refine z_ixT hv rfl ?_
      one_sign
      refine ifF (by decide +kernel) ?_
      one_sign
      exact k false (iff_of_false (by simp) (by rintro ⟨w1, w2, n, m, w1', w2', n', m', g1, g2, g3, g4, _⟩; simp_all)) H3 f13
    | some n =>
    cases h2 : objN R2 b with
    | none =>
      simp only [optV]
      one_sign
      refine z_ixT hv rfl ?_
      one_sign
      refine ifF (by decide +kernel) ?_
      one_sign
      exact k false (iff_of_false (by simp) (by rintro ⟨w1, w2, n, m, w1', w2', n', m', g1, g2, g3, g4, _⟩; simp_all)) H3 f13
    | some m =>
    simp only [optV]
    one_sign
    refine z_ixT hv rfl ?_
    one_sign
    refine ifF (by decide +kernel) ?_
    one_sign
    refine z_ixT hv rfl ?_
    one_sign
    refine ifF (by decide +kernel) ?_
    one_sign
    refine z_ixT hv rfl ?_
    one_sign
    refine ⟨o1, qa, R1, ws1, q, rfl, V1.keep f13, .inr (f13.g0 hq), hbq, fun H4 f4 => ?_⟩
    have f14 := f13.trans f4
    one_sign
    refine ⟨o1, R1, ws1, walkW R1 (0 :: ws1) q, rfl, V1.keep f14, fun v e => walkW_evn L1.eR L1.e0 e, ?_⟩
    one_sign
    refine z_ixT (f4.g0 hv) rfl ?_
    one_sign
    refine ⟨o2, qa, R2, ws2, q, rfl, V2.keep f14, .inr (f14.g0 hq), hbq, fun H5 f5 => ?_⟩
    have f15 := f14.trans f5
    one_sign
    refine ⟨o2, R2, ws2, walkW R2 (0 :: ws2) q, rfl, V2.keep f15, fun v e => walkW_evn L2.eR L2.e0 e, ?_⟩
    one_sign
    cases e3 : (walkW R1 (0 :: ws1) q).bind (objN R1) with
    | none =>
      simp only [optV]
      one_sign
      refine k false (iff_of_false (by simp) ?_) H5 f15
      rintro ⟨w1, w2, n, m, w1', w2', n', m', g1, g2, g3, g4, g5, g6, g7, g8, _⟩
      rw [g5] at e3
      rw [show (some w1').bind (objN R1) = objN R1 w1' from rfl, g7] at e3
      cases e3
    | some n' =>
    obtain ⟨c, e5, e7⟩ := Option.bind_eq_some_iff.mp e3
    simp only [optV]
    cases e4 : (walkW R2 (0 :: ws2) q).bind (objN R2) with
    | none =>
      simp only [optV]
      refine iteT ?_
      one_sign
      refine k false (iff_of_false (by simp) ?_) H5 f15
      rintro ⟨w1, w2, n, m, w1', w2', n', m', g1, g2, g3, g4, g5, g6, g7, g8, _⟩
      rw [g6] at e4
      rw [show (some w2').bind (objN R2) = objN R2 w2' from rfl, g8] at e4
      cases e4
    | some m' =>
    obtain ⟨d, e6, e8⟩ := Option.bind_eq_some_iff.mp e4
    simp only [optV]
    refine iteT ?_
    one_sign
    try (refine iteT ?_; one_sign)

    refine ⟨by cases decide (n = n') <;> cases decide (m = m') <;> rfl, ?_⟩
    refine k _ ?_ H5 f15
    have : (!decide ((V.bl (decide (n = n'))) = V.bl (decide (m = m')))) = true ↔ ¬ (n = n' ↔ m = m') := by
      rw [Bool.not_eq_true', decide_eq_false_iff_not]
      refine not_congr ⟨fun h => ?_, fun h => ?_⟩
      · have h := V.bl.inj h
        exact decide_eq_decide.mp h
      · exact congrArg _ (decide_eq_decide.mpr h)
    refine this.trans ⟨fun h => ⟨a, b, n, m, c, d, n', m', e1, e2, h1, h2, e5, e6, e7, e8, h⟩, fun ⟨w1, w2, x1, x2, w3, w4, x3, x4, g1, g2, g3, g4, g5, g6, g7, g8, g9⟩ => ?_⟩
    rw [e1] at g1; rw [e2] at g2; cases g1; cases g2
    rw [h1] at g3; rw [h2] at g4; cases g3; cases g4
    rw [e5] at g5; rw [e6] at g6; cases g5; cases g6
    rw [e7] at g7; rw [e8] at g8; cases g7; cases g8
    exact g9
end

end LX
namespace LX
open PySem PySem.Spec PyProof.Rows L2 NdefX
set_option hygiene false in
local macro_rules | `(tactic| k_memK) => `(tactic| first | exact W.na_Comparison_one | exact W.na_Comparison_other | exact W.na_Comparison_there | exact W.na_Comparison_back | exact W.na_Comparison_first | exact W.na_Store_room | exact W.na_Store_entries | exact W.na_Store_words | exact W.na_Store__places | exact W.na_Store__least | exact W.na_Space_store | exact W.na_Space_pressure | exact W.na_Space_always | exact W.na_Space_allocations | exact W.na_Space_collections | exact W.na_Space__roots | exact W.na_Space__held | exact W.na_Space__saved)
set_option hygiene false in
local macro_rules | `(tactic| k_ownIn) => `(tactic| first | exact W.C_Comparison | exact W.C_Store | exact W.C_Space)
local macro_rules | `(tactic| none_booked) => `(tactic| first | assumption | (refine Fr.g0 (by assumption) ?_; none_booked))
local macro_rules | `(tactic| one_sign) => `(tactic| repeat (first
  | refine Stp.h ?_
  | ((with_reducible refine' z_fld1 ?k0 ?k1 ?k2 ?k3 ?_); (case k0 => none_booked); (case k1 => k_ownIn); (case k2 => k_memK); (case k3 => rfl))
  | ((with_reducible refine' z_meth1 ?k0 ?k1 ?_); (case k0 => none_booked); (case k1 => rfl))
  | ((with_reducible refine' z_bmL ?k0 ?_); (case k0 => none_booked))
  | ((with_reducible refine' z_lenL ?k0 ?_); (case k0 => none_booked))
  | ((with_reducible refine' z_lenT ?k0 ?_); (case k0 => none_booked))
  | ((with_reducible refine' z_lenD ?k0 ?_); (case k0 => none_booked))
  | ((with_reducible refine' z_truL ?k0 ?_); (case k0 => none_booked))
  | ((with_reducible refine' z_truD ?k0 ?_); (case k0 => none_booked))
  | ((with_reducible refine' z_truT ?k0 ?_); (case k0 => none_booked))
  | ((with_reducible refine' z_inDIP ?k0 ?_); (case k0 => none_booked))
  | ((with_reducible refine' z_inDIN ?k0 ?_); (case k0 => none_booked))
  | ((with_reducible refine' z_inDfP ?k0 ?_); (case k0 => none_booked))
  | ((with_reducible refine' z_inDfN ?k0 ?_); (case k0 => none_booked))
  | ((with_reducible refine' z_iList1 ?k0 ?_); (case k0 => none_booked))
  | ((with_reducible refine' z_isi0 ?k0 ?k1 ?k2 ?_); (case k0 => exact (ClsV.ty _)); (case k1 => exact (TyX.base (TyOf.lst (by none_booked)))); (case k2 => first | exact kt_list_int | exact kt_list_bool | exact kt_list_str | exact kt_list_list | exact kt_list_tuple | exact kt_list_dict))
  | ((with_reducible refine' z_rI ?k0 ?_); (case k0 => first | exact (by decide : (0 : Int) < _) | exact ⟨by decide, by decide⟩ | exact ⟨by decide, by decide, by decide⟩ | (show (0 : Int) < _; omega)))
  | ((with_reducible refine' z_mulI ?k0 ?_); (case k0 => first | exact Or.inr ⟨by decide, by decide⟩ | exact Or.inl ⟨by decide, by decide⟩ | exact Or.inl ⟨by omega, by omega⟩ | exact Or.inr ⟨by omega, by omega⟩))))
local macro_rules | `(tactic| leaf_len) => `(tactic| (simp only [wipe, List.map_cons, List.map_nil, List.set_cons_zero, List.set_cons_succ]; one_sign; refine z_ok rfl ?_; one_sign))
section
variable {P : Program} {w : World} {K : PySem.W.Frag} {mg : Str → Option Value} {base : Heap}
structure D3 (H : Hp) (td bd fd wl : Addr) (F : List C3) (Wl : List W3) : Prop where
  t : H td = some (.dK (tD F))
  b : H bd = some (.dK (bD F))
  f : H fd = some (.dK (fD F))
  i : C3I H F
  w : H wl = some (.lst (w3L Wl))
  wi : W3I H Wl
def sp_due : Sp := fun vs H Q _ => ∃ o1 o2 R1 R2 ws1 ws2, vs = [.ref o1, .ref o2] ∧ WL H o1 R1 ws1 ∧ WL H o2 R2 ws2 ∧
  (∀ t H', VdAt H' t (vdt R1 R2 (0 :: ws1) (0 :: ws2)) → Fr [] H H' → Q (.ref t) H')
theorem ok__law_due (W : WT P K mg base) : FnOk P w K mg base CX0 2 W.f__law_due W.fd__law_due ["_law_one", "_law_other"] sp_due := by
  refine W.F__law_due.ok sc__law_due (fun vs H Q E h => by obtain ⟨o1, o2, R1, R2, ws1, ws2, rfl, V1, V2, k⟩ := h; rfl) (fun cdv A outer s H vs Q E hr h => ?_)
  obtain ⟨o1, o2, R1, R2, ws1, ws2, rfl, V1, V2, k⟩ := h
  have hu1 := hu_of hr
  have hu64 := hu64_of hr
  refine ⟨_, (pss_cons (ps_if (pt_cmpR (op_neU hu64) (pe_callB call_lenU (by rfl) W.n_len bb_len (pa_cons (pe_ix (ix_U hu1) (pv 0) pe_int (fun _ _ => rfl)) pa_nil)) (pe_callB call_lenU (by rfl) W.n_len bb_len (pa_cons (pe_ix (ix_U hu1) (pv 1) pe_int (fun _ _ => rfl)) pa_nil)) (by first | exact nomark _ | rfl)) (pss_one (ps_ret (pe_tup (pa_cons (pe_strT (show (PySem.Str.ofString "held") = T [104, 101, 108, 100] by decide +kernel)) pa_nil)))) pss_nil)
      (pss_cons (ps_set (i := 2) sc__law_due.nd rfl (by first | exact Or.inl rfl | exact Or.inr rfl) pe_dnewK)
      (pss_cons (ps_set (i := 3) sc__law_due.nd rfl (by first | exact Or.inl rfl | exact Or.inr rfl) pe_dnewK)
      (pss_cons (ps_set (i := 4) sc__law_due.nd rfl (by first | exact Or.inl rfl | exact Or.inr rfl) pe_dnewK)
      (pss_cons (ps_setLc (i := 5) (own := [("_law_k", 6)]) (g := gName 6) (tt := tYes) rfl sc__law_due.nd rfl rfl (sw_true rfl rfl rfl (by decide +kernel)) (pi_range1 (by rfl) W.n_range (pa_cons (pe_op op_addU (pe_callB call_lenU (by rfl) W.n_len bb_len (pa_cons (pe_ix (ix_U hu1) (pv 0) pe_int (fun _ _ => rfl)) pa_nil)) pe_int) pa_nil)) (blkOk_by (N := N__law_due) (sc := defScope s__law_due) (by first | decide +kernel | rfl)) (fun _ _ _ _ _ => (pg_name (i := 6) sc__law_due.nd rfl (by first | exact Or.inl rfl | exact Or.inr rfl))) (fun _ _ _ _ _ => pts_nil) (fun _ _ _ _ _ => (pe_tup (pa_cons (pe_tup (pa_cons (pv 6) pa_nil)) (pa_cons (pe_ix (ix_UK (K := K) rfl (by exact hu1)) (pe_op (op_addUK (K := K) rfl) (pe_lst (pa_cons pe_int pa_nil)) (pe_ix (ix_UK (K := K) rfl (by exact hu1)) (pv 0) pe_int (fun _ _ => rfl))) (pv 6) (fun _ _ => rfl)) (pa_cons (pe_ix (ix_UK (K := K) rfl (by exact hu1)) (pe_op (op_addUK (K := K) rfl) (pe_lst (pa_cons pe_int pa_nil)) (pe_ix (ix_UK (K := K) rfl (by exact hu1)) (pv 1) pe_int (fun _ _ => rfl))) (pv 6) (fun _ _ => rfl)) pa_nil))))))
      (pss_cons (ps_for PassesOwn.never rfl (pi_range1 (by rfl) W.n_range (pa_cons pe_int pa_nil)) (pg_name (i := 6) sc__law_due.nd rfl (by first | exact Or.inl rfl | exact Or.inr rfl)) (pss_cons (ps_if (pt_cmpR op_geU (pv 6) (pe_callB call_lenU (by rfl) W.n_len bb_len (pa_cons (pv 5) pa_nil)) (by first | exact nomark _ | rfl)) (pss_one ps_break) pss_nil)
      (pss_cons (ps_set (i := 7) sc__law_due.nd rfl (by first | exact Or.inl rfl | exact Or.inr rfl) (pe_ix (ix_U hu1) (pe_ix (ix_U hu1) (pv 5) (pv 6) (fun _ _ => rfl)) pe_int (fun _ _ => rfl)))
      (pss_cons (ps_set (i := 8) sc__law_due.nd rfl (by first | exact Or.inl rfl | exact Or.inr rfl) (pe_call (ok__law_thing W) (hr.mono (by decide)) rfl W.g__law_thing W.F__law_thing.kp W.b__law_thing .nil pass0 (pa_cons (pv 0) (pa_cons (pe_ix (ix_U hu1) (pe_ix (ix_U hu1) (pv 5) (pv 6) (fun _ _ => rfl)) pe_int (fun _ _ => rfl)) pa_nil))))
      (pss_cons (ps_set (i := 9) sc__law_due.nd rfl (by first | exact Or.inl rfl | exact Or.inr rfl) (pe_call (ok__law_thing W) (hr.mono (by decide)) rfl W.g__law_thing W.F__law_thing.kp W.b__law_thing .nil pass0 (pa_cons (pv 1) (pa_cons (pe_ix (ix_U hu1) (pe_ix (ix_U hu1) (pv 5) (pv 6) (fun _ _ => rfl)) pe_int (fun _ _ => rfl)) pa_nil))))
      (pss_one (ps_if (PW.pt (pw_or (pt_cmpR op_isU (pv 8) pe_non (by first | exact nomark _ | rfl)) (pw_or1 (pt_cmpR op_isU (pv 9) pe_non (by first | exact nomark _ | rfl))))) (pss_one (ps_if (PW.pt (pw_or (pt_cmpR op_isnotU (pv 8) pe_non (by first | exact nomark _ | rfl)) (pw_or (pt_cmpR op_isnotU (pv 9) pe_non (by first | exact nomark _ | rfl)) (pw_or1 (pt_cmpR (op_neU hu64) (pe_ix (ix_U hu1) (pe_ix (ix_U hu1) (pv 5) (pv 6) (fun _ _ => rfl)) pe_int (fun _ _ => rfl)) (pe_ix (ix_U hu1) (pe_ix (ix_U hu1) (pv 5) (pv 6) (fun _ _ => rfl)) pe_int (fun _ _ => rfl)) (by first | exact nomark _ | rfl)))))) (pss_one (ps_ret (pe_tup (pa_cons (pe_strT (show (PySem.Str.ofString "word") = T [119, 111, 114, 100] by decide +kernel)) (pa_cons (pv 7) pa_nil))))) pss_nil)) (pss_one (ps_if (PW.pt (pw_and (pt_cmpR (op_inU hu1) (pv 8) (pv 2) (by first | exact nomark _ | rfl)) (pw_and1 (pt_cmpR (op_neU hu64) (pe_ix (ix_U hu1) (pv 2) (pv 8) (fun _ _ => rfl)) (pv 9) (by first | exact nomark _ | rfl))))) (pss_one (ps_ret (pe_tup (pa_cons (pe_strT (show (PySem.Str.ofString "same") = T [115, 97, 109, 101] by decide +kernel)) (pa_cons (pe_ix (ix_U hu1) (pv 4) (pv 8) (fun _ _ => rfl)) (pa_cons (pv 7) pa_nil)))))) (pss_one (ps_if (PW.pt (pw_and (pt_cmpR (op_inU hu1) (pv 9) (pv 3) (by first | exact nomark _ | rfl)) (pw_and1 (pt_cmpR (op_neU hu64) (pe_ix (ix_U hu1) (pv 3) (pv 9) (fun _ _ => rfl)) (pv 8) (by first | exact nomark _ | rfl))))) (pss_one (ps_ret (pe_tup (pa_cons (pe_strT (show (PySem.Str.ofString "same") = T [115, 97, 109, 101] by decide +kernel)) (pa_cons (pe_ix (ix_U hu1) (pv 4) (pe_ix (ix_U hu1) (pv 3) (pv 9) (fun _ _ => rfl)) (fun _ _ => rfl)) (pa_cons (pv 7) pa_nil)))))) (pss_one (ps_if (pt_cmpR (op_neU hu64) (pe_callB call_lenU (by rfl) W.n_len bb_len (pa_cons (pe_ix (ix_U hu1) (pe_ix (ix_U hu1) (pv 0) pe_int (fun _ _ => rfl)) (pv 8) (fun _ _ => rfl)) pa_nil)) (pe_callB call_lenU (by rfl) W.n_len bb_len (pa_cons (pe_ix (ix_U hu1) (pe_ix (ix_U hu1) (pv 1) pe_int (fun _ _ => rfl)) (pv 9) (fun _ _ => rfl)) pa_nil)) (by first | exact nomark _ | rfl)) (pss_one (ps_ret (pe_tup (pa_cons (pe_strT (show (PySem.Str.ofString "size") = T [115, 105, 122, 101] by decide +kernel)) (pa_cons (pv 7) pa_nil))))) (pss_one (ps_if (pt_cmpR (op_ninU hu1) (pv 8) (pv 2) (by first | exact nomark _ | rfl)) (pss_cons (ps_dput hu1 (pv 2) (pv 8) (pv 9) rfl)
      (pss_cons (ps_dput hu1 (pv 3) (pv 9) (pv 8) rfl)
      (pss_cons (ps_dput hu1 (pv 4) (pv 8) (pv 7) rfl)
      (pss_cons (ps_set (i := 10) sc__law_due.nd rfl (by first | exact Or.inl rfl | exact Or.inr rfl) (pe_ix (ix_U hu1) (pe_ix (ix_U hu1) (pv 0) pe_int (fun _ _ => rfl)) (pv 8) (fun _ _ => rfl)))
      (pss_one (ps_expr (pe_bm PySem.F.plainAttrs_list PySem.F.slot_list_extend PySem.F.type_list_extend mt_extend (pv 5) (pa_cons (pe_lc (own := [("_law_at", 11)]) (g := gName 11) (tt := tYes) rfl sc__law_due.nd (pi_range1 (by rfl) W.n_range (pa_cons (pe_callB call_lenU (by rfl) W.n_len bb_len (pa_cons (pv 10) pa_nil)) pa_nil)) (blkOk_by (N := N__law_due) (sc := defScope s__law_due) (by first | decide +kernel | rfl)) (fun _ _ _ _ _ => (pg_name (i := 11) sc__law_due.nd rfl (by first | exact Or.inl rfl | exact Or.inr rfl))) (fun _ _ _ _ _ => pts_nil) (fun _ _ _ _ _ => (pe_tup (pa_cons (pe_op (op_addUK (K := K) rfl) (pv 7) (pe_tup (pa_cons (pv 11) pa_nil))) (pa_cons (pe_ix (ix_UK (K := K) rfl (by exact hu1)) (pv 10) (pv 11) (fun _ _ => rfl)) (pa_cons (pe_ix (ix_UK (K := K) rfl (by exact hu1)) (pe_ix (ix_UK (K := K) rfl (by exact hu1)) (pe_ix (ix_UK (K := K) rfl (by exact hu1)) (pv 1) pe_int (fun _ _ => rfl)) (pv 9) (fun _ _ => rfl)) (pv 11) (fun _ _ => rfl)) pa_nil)))))) pa_nil)))))))) pss_nil)))))))))))))))
      (pss_one (ps_ret (pe_tup (pa_cons (pe_strT (show (PySem.Str.ofString "alike") = T [97, 108, 105, 107, 101] by decide +kernel)) (pa_cons (pe_lock (pe_lc (own := [("_law_first", 8)]) (g := gName 8) (tt := tYes) rfl sc__law_due.nd (pi_keys (pv 2)) (blkOk_by (N := N__law_due) (sc := defScope s__law_due) (by first | decide +kernel | rfl)) (fun _ _ _ _ _ => (pg_name (i := 8) sc__law_due.nd rfl (by first | exact Or.inl rfl | exact Or.inr rfl))) (fun _ _ _ _ _ => pts_nil) (fun _ _ _ _ _ => (pe_tup (pa_cons (pv 8) (pa_cons (pe_ix (ix_UK (K := K) rfl (by exact hu1)) (pv 2) (pv 8) (fun _ _ => rfl)) pa_nil)))))) pa_nil))))))))))), ?_⟩
  refine z_start (σ := [some _, some _, none, none, none, none, none, none, none, none, none, none]) rfl ?_
  one_sign
  have V1' := V1
  have V2' := V2
  obtain ⟨ra1, wa1, A1, hw1, L1⟩ := V1'
  obtain ⟨ra2, wa2, A2, hw2, L2⟩ := V2'
  have hwa1 := L1.wa
  have hwa2 := L2.wa
  one_sign
  refine z_ixT hw1 rfl ?_
  one_sign
  refine z_ixT hw2 rfl ?_
  one_sign
  rw [List.length_map, List.length_map]
  refine iteND (fun h => ?_) (fun h => ?_)
  · one_sign
    refine z_newL (by show 1 ≤ sizeLine; decide) fun t H2 ht f2 t2 => ?_
    refine k t H2 ?_ f2
    unfold vdt
    rw [if_neg (by rw [List.length_cons, List.length_cons]; omega)]
    exact t2
  have hl : (0 :: ws1).length = (0 :: ws2).length := by rw [List.length_cons, List.length_cons]; omega
  one_sign
  intro td H1 htd f1 t1
  one_sign
  intro bd H2 hbd f2 b2
  one_sign
  intro fd H3 hfd f3 d3
  have f03 := (f1.trans f2).trans f3
  have zb : H bd = none := f1.none hbd
  have zf : H fd = none := (f1.trans f2).none hfd
  have n12 : td ≠ bd := ne_of_none t1 hbd
  have n13 : td ≠ fd := ne_of_none (f2.g0 t1) hfd
  have n23 : bd ≠ fd := ne_of_none b2 hfd
  have hw13 := f03.g0 hw1
  have hw23 := f03.g0 hw2
  have hwa13 := f03.g0 hwa1
  one_sign
  refine z_ixT hw13 rfl ?_
  one_sign
  rw [List.length_map]
  refine z_rng1 (ws1.length + 1) (by push_cast; rfl) (by have := L1.lw; omega) ?_
  generalize hr1 : 0 :: ws1 = r1 at k hl
  generalize hr2 : 0 :: ws2 = r2 at k hl
  have hr1l : r1.length = ws1.length + 1 := by rw [← hr1]; rfl
  have hr2l : r2.length = ws2.length + 1 := by rw [← hr2]; rfl
  have lw1 := L1.lw
  have lw2 := L2.lw
  refine z_lcR (fun i xs H' => ∃ W : List W3, xs = w3L W ∧ W3I H' W ∧ w3Q W = (starts r1 r2).take i) (fun _ _ _ _ => ⟨[], rfl, fun x hx => (by cases hx), rfl⟩) (fun Rr i xs H4 hRr hi hxl hP hX f4 => ?_) (fun wl xs H4 hwl hP hxl hX f4 => ?_)
  · obtain ⟨Wl, rfl, hI, hQ⟩ := hP
    obtain ⟨x, hx⟩ : ∃ x, r1[i]? = some x := ⟨_, List.getElem?_eq_getElem (by omega)⟩
    obtain ⟨y, hy⟩ : ∃ y, r2[i]? = some y := ⟨_, List.getElem?_eq_getElem (by omega)⟩
    have hk : (starts r1 r2)[i]? = some ([(i : Int)], x, y) := by
      unfold starts
      rw [List.getElem?_mapIdx, hx]
      show some ([(i : Int)], x, r2.getD i 0) = _
      rw [List.getD_eq_getElem?_getD, hy]; rfl
    leaf_len
    refine z_newL (by show 1 ≤ sizeLine; decide) fun pa H5 hpa f5 p5 => ?_
    one_sign
    refine z_newL (by show 1 ≤ sizeLine; decide) fun q1 H6 hq1 f6 q16 => ?_
    have f46 := (f4.trans f5).trans f6
    one_sign
    refine z_ixT (f46.g0 hw13) rfl ?_
    one_sign
    refine z_addL q16 (f46.g0 hwa13) (by rw [List.length_map, sizeLine_eq]; show 1 + ws1.length ≤ _; omega) fun q2 H7 hq2 f7 q27 => ?_
    have q27 : H7 q2 = some (.lst ((0 :: ws1).map V.int)) := q27
    rw [hr1] at q27
    one_sign
    refine z_ixL q27 (by rw [Int.zero_add]; exact atI_nat (int_at hx)) ?_
    one_sign
    refine z_newL (by show 1 ≤ sizeLine; decide) fun q3 H8 hq3 f8 q38 => ?_
    have f48 := (f46.trans f7).trans f8
    one_sign
    refine z_ixT (f48.g0 hw23) rfl ?_
    one_sign
    refine z_addL q38 (f48.g0 (f03.g0 hwa2)) (by rw [List.length_map, sizeLine_eq]; show 1 + ws2.length ≤ _; omega) fun q4 H9 hq4 f9 q49 => ?_
    have q49 : H9 q4 = some (.lst ((0 :: ws2).map V.int)) := q49
    rw [hr2] at q49
    one_sign
    refine z_ixL q49 (by rw [Int.zero_add]; exact atI_nat (int_at hy)) ?_
    one_sign
    refine z_newL (by show 3 ≤ sizeLine; decide) fun b H10 hb f10 e10 => ?_
    have f510 := (((f6.trans f7).trans f8).trans f9).trans f10
    have fX := f5.trans f510
    refine z_lcY hRr (fX.g0 hX) (f4.trans fX) hxl (by rw [sizeLine_eq]; omega) fun H11 f11 _ _ => ?_
    have t11 : TP H10 H11 := f11.tp1 (fX.g0 hX) (by intro _ z; cases z)
    refine ⟨Wl ++ [(b, pa, [(i : Int)], x, y)], by unfold w3L; rw [List.map_append]; rfl, ((hI.mono fX.tp).app fun z hz => ?_).mono t11, ?_⟩
    · rw [List.mem_singleton] at hz
      rw [hz]
      refine ⟨e10, ?_⟩
      have := f510.g0 p5
      rw [Int.zero_add] at this
      exact this
    · rw [List.take_succ, hk, ← hQ]
      unfold w3Q
      rw [List.map_append]; rfl
  obtain ⟨Wl, rfl, hI, hQ⟩ := hP
  have hQ : w3Q Wl = starts r1 r2 := by rw [hQ, List.take_of_length_le]; unfold starts; rw [List.length_mapIdx]; omega
  have f04 := f03.trans f4
  have q0 : QS R1 R2 r1 r2 (vdt R1 R2 r1 r2) (c3F []) (w3Q Wl) := by rw [hQ]; exact QS.start hl
  have hmu0 : mu R1 (c3F []) (w3Q Wl) ≤ 2000 := by
    rw [hQ]
    unfold mu starts
    rw [List.length_mapIdx]
    show (R1.length - 0) * 27 + _ ≤ _
    have := L1.lR
    omega
  have zw : H wl = none := f03.none hwl
  have st4 : D3 H4 td bd fd wl [] Wl := ⟨f4.g0 (f3.g0 (f2.g0 t1)), f4.g0 (f3.g0 b2), f4.g0 d3, fun f hf => (by cases hf), hX, hI⟩
  one_sign
  refine z_rng1 40000 rfl (by omega) ?_
  refine for_range (lo := 0) (n := 40000) (fun i σ H' => ∃ (Wl : List W3) (F : List C3) (v6 v7 v8 v9 v10 : Option V), σ = [some (.ref o1), some (.ref o2), some (.ref td), some (.ref bd), some (.ref fd), some (.ref wl), v6, v7, v8, v9, v10, none] ∧ D3 H' td bd fd wl F Wl ∧ i ≤ Wl.length ∧ QS R1 R2 r1 r2 (vdt R1 R2 r1 r2) (c3F F) (w3Q (Wl.drop i)) ∧ mu R1 (c3F F) (w3Q (Wl.drop i)) + i ≤ 2000 ∧ Wl.length ≤ 26 * i + 25 ∧ Fr [] H H')
    ⟨Wl, [], _, _, _, _, _, rfl, st4, Nat.zero_le _, q0, hmu0, by have := congrArg List.length hQ; unfold w3Q starts at this; rw [List.length_map, List.length_mapIdx] at this; omega, f04⟩ (fun i σ H5 hi hJ => ?_) (fun σ H5 hJ => ?_)
  · clear hQ hI q0 hmu0 st4 hX
    obtain ⟨Wl, F, v6, v7, v8, v9, v10, rfl, S, hiW, q5, m5, hWl, f5⟩ := hJ
    have ht := S.t
    have hb := S.b
    have hf := S.f
    have hw := S.w
    have hlw : (w3L Wl).length = Wl.length := List.length_map _
    have hF5 := q5.I.len
    have hF5' : (c3F F).length = F.length := List.length_map _
    have hR := L1.lR
    one_sign
    rw [hlw]
    refine iteD (fun h => ?_) (fun h => ?_)
    · have h : (Wl.length : Int) ≤ 0 + (i : Int) := h
      obtain rfl : i = Wl.length := by omega
      rw [List.drop_length] at q5
      have hv := QS.nil q5
      one_sign
      have htl : (tD F).length = F.length := List.length_map _
      refine z_lcK (td := tVar 2) (fun H' R h => ⟨_, rfl, h⟩) ht (fun i xs H' => ∃ A : List Addr, xs = A.map V.ref ∧ (∀ a ∈ A, a ≠ td) ∧ PrsAt H' A ((prs (c3F F)).take i)) (fun od HF R1 H' _ _ _ _ => ⟨[], rfl, fun a e => (by cases e), rfl, fun i a p e => (by cases e)⟩) (fun od HF L i kk v xs H6 fF hF hL hk hi hl hxs hL6 f6 => ?_) (fun L xs H6 H7 hL hxs hl hL7 f7 f57 => ?_)
      · obtain ⟨A, rfl, hA, hP⟩ := hxs
        have hk' := hk
        unfold tD at hk'
        rw [List.getElem?_map] at hk'
        obtain ⟨f, hf, ef⟩ := Option.map_eq_some_iff.mp hk'
        cases ef
        have hF6 := f6.g0 hF
        have nd := q5.I.n1
        have hv : valV (tD F) (.inl f.1) = some (.int f.2.1) := by
          rw [tD_val]
          cases e : lookN (c3F F) f.1 with
          | none => exact absurd (List.mem_map_of_mem (f := (·.1)) (List.mem_map_of_mem (f := fun f : C3 => (f.1, f.2.1, f.2.2.2)) (List.mem_of_getElem? hf))) (lookN_none e)
          | some g =>
            obtain ⟨g1, g2⟩ := lookN_some e
            have : g = (f.1, f.2.1, f.2.2.2) := inj_of_nodup nd g1 (List.mem_map_of_mem (f := fun f : C3 => (f.1, f.2.1, f.2.2.2)) (List.mem_of_getElem? hf)) g2
            rw [this]; rfl
        show gName 8 (V.int f.1) _ _ _
        leaf_len
        refine z_ixDf hF6 hv ?_
        one_sign
        refine z_newL (by show 2 ≤ sizeLine; decide) fun t H8 ht8 f8 t8 => ?_
        refine z_lcY hL (f8.g0 hL6) (f6.trans f8) hl (by rw [sizeLine_eq]; omega) fun H9 f9 _ _ => ?_
        have tp9 : TP H8 H9 := f9.tp1 (f8.g0 hL6) (by intro _ z; cases z)
        refine ⟨A ++ [t], by rw [List.map_append]; rfl, fun a ha => ?_, ?_⟩
        · rcases List.mem_append.mp ha with h | h
          · exact hA a h
          · rw [List.mem_singleton.mp h]
            exact fun z => by rw [z, hF6] at ht8; cases ht8
        · have he : (prs (c3F F))[i]? = some (f.1, f.2.1) := by
            unfold prs c3F
            rw [List.map_map, List.getElem?_map, hf]; rfl
          rw [List.take_succ, he]
          refine PrsAt.snoc (p := (f.1, f.2.1)) ⟨hP.1, fun i a p e1 e2 => tp9 _ _ (f8.g0 (hP.2 i a p e1 e2))⟩ (tp9 _ _ t8)
      · obtain ⟨A, rfl, hA, hP⟩ := hxs
        rw [List.take_of_length_le (by rw [htl]; unfold prs c3F; rw [List.length_map, List.length_map]; exact Nat.le_refl _)] at hP
        have hP7 : PrsAt H7 A (prs (c3F F)) := ⟨hP.1, fun i a p e1 e2 => f7.g (hP.2 i a p e1 e2) (nin (hA a (List.mem_of_getElem? e1)))⟩
        one_sign
        refine z_newL (by show 2 ≤ sizeLine; decide) fun t H8 ht8 f8 t8 => ?_
        exact k t H8 (by rw [hv]; exact ⟨L, A, t8, f8.g0 hL7, hP7.keep f8⟩) ((f5.trans f57).trans f8)
    have h : ¬ (Wl.length : Int) ≤ 0 + (i : Int) := h
    obtain ⟨y, hy⟩ : ∃ y, Wl[i]? = some y := ⟨_, List.getElem?_eq_getElem (by omega)⟩
    have hyV : (w3L Wl)[i]? = some (V.ref y.1) := by unfold w3L; rw [List.getElem?_map, hy]; rfl
    have iw : ∀ {Q : VK}, Q (.ref y.1) H5 → rIxU K (.ref wl) (.int (0 + (i : Int))) H5 Q := fun q => z_ixL hw (by rw [Int.zero_add]; exact atI_nat hyV) q
    obtain ⟨y1, y2⟩ := S.wi y (List.mem_of_getElem? hy)
    rw [w3_cons hy] at q5 m5
    obtain ⟨g1, g2⟩ := q5.q _ List.mem_cons_self
    have g1 : walkW R1 r1 y.2.2.1 = some y.2.2.2.1 := g1
    have g2 : walkW R2 r2 y.2.2.1 = some y.2.2.2.2 := g2
    have ea : Evn y.2.2.2.1 := walkW_evn L1.eR (by rw [← hr1]; exact L1.e0) g1
    have eb : Evn y.2.2.2.2 := walkW_evn L2.eR (by rw [← hr2]; exact L2.e0) g2
    have hyl : y.2.2.1.length ≤ 60 := by
      have := q5.l _ List.mem_cons_self
      have : y.2.2.1.length ≤ (c3F F).length + 1 := this
      omega
    one_sign
    refine iw ?_
    one_sign
    refine z_ixT y1 rfl ?_
    one_sign
    refine iw ?_
    one_sign
    refine z_ixT y1 rfl ?_
    one_sign
    refine z_call_thing (V1.keep f5) ea ?_
    one_sign
    refine iw ?_
    one_sign
    refine z_ixT y1 rfl ?_
    one_sign
    refine z_call_thing (V2.keep f5) eb ?_
    have wd : stepQ R1 R2 (c3F F) (y.2.2.1, y.2.2.2.1, y.2.2.2.2) = .inl (.word y.2.2.1) → ∀ t H6, Fr [] H5 H6 → H6 t = some (.tup [.str sWORD, .ref y.2.1]) → Q (.ref t) H6 := fun e t H6 f6 t6 => by
      refine k t H6 ?_ (f5.trans f6)
      rw [← q5.inl e]
      exact ⟨y.2.1, t6, f6.g0 y2⟩
    have go : stepQ R1 R2 (c3F F) (y.2.2.1, y.2.2.2.1, y.2.2.2.2) = .inr (c3F F, []) → QS R1 R2 r1 r2 (vdt R1 R2 r1 r2) (c3F F) (w3Q (Wl.drop (i + 1))) ∧ mu R1 (c3F F) (w3Q (Wl.drop (i + 1))) + (i + 1) ≤ 2000 := fun e => by
      have := q5.inr (fun r hr => (L1.lr r hr).2) hl e
      rw [List.append_nil] at this
      exact ⟨this.1, by omega⟩
    cases e1 : objN R1 y.2.2.2.1 with
    | none =>
      cases e2 : objN R2 y.2.2.2.2 with
      | none =>
        simp only [optV]
        one_sign
        refine iw ?_
        one_sign
        refine z_ixT y1 rfl ?_
        one_sign
        refine iw ?_
        one_sign
        refine z_ixT y1 rfl ?_
        one_sign
        refine iteND (fun h => ?_) (fun h => ?_)
        · one_sign
          refine z_newL (by show 2 ≤ sizeLine; decide) fun t H6 ht f6 t6 => ?_
          exact wd (by simp only [stepQ, e1, e2, if_neg h]) t H6 f6 t6
        · one_sign
          have z := go (by simp only [stepQ, e1, e2, if_pos h])
          exact ⟨Wl, F, _, _, _, _, _, rfl, S, by omega, z.1, z.2, by omega, f5⟩
      | some m =>
        simp only [optV]
        one_sign
        refine z_newL (by show 2 ≤ sizeLine; decide) fun t H6 ht f6 t6 => ?_
        exact wd (by simp only [stepQ, e1, e2]) t H6 f6 t6
    | some n =>
      cases e2 : objN R2 y.2.2.2.2 with
      | none =>
        simp only [optV]
        one_sign
        refine z_newL (by show 2 ≤ sizeLine; decide) fun t H6 ht f6 t6 => ?_
        exact wd (by simp only [stepQ, e1, e2]) t H6 f6 t6
      | some m =>
        obtain ⟨-, -, n0, n1⟩ := objN_ok e1
        obtain ⟨-, -, m0, m1⟩ := objN_ok e2
        have I5 := q5.I
        have same : ∀ (g : C3), g ∈ F → clashQ R1 R2 (c3F F) n m y.2.2.1 = some (.same g.2.2.2 y.2.2.1) → ∀ t H6, Fr [] H5 H6 → H6 t = some (.tup [.str sSAME, .ref g.2.2.1, .ref y.2.1]) → Q (.ref t) H6 := fun g hg ec t H6 f6 t6 => by
          refine k t H6 ?_ (f5.trans f6)
          rw [← q5.inl (v := .same g.2.2.2 y.2.2.1) (by simp only [stepQ, e1, e2, ec])]
          exact ⟨_, _, t6, f6.g0 (S.i g hg), f6.g0 y2⟩
        obtain ⟨x1, hx1⟩ : ∃ a, A1[n.toNat]? = some a := ⟨_, List.getElem?_eq_getElem (by rw [L1.rows.len]; omega)⟩
        obtain ⟨x2, hx2⟩ : ∃ a, A2[m.toNat]? = some a := ⟨_, List.getElem?_eq_getElem (by rw [L2.rows.len]; omega)⟩
        have q1 := f5.g0 (L1.rows.it _ _ _ hx1 (row_of n0 n1))
        have q2 := f5.g0 (L2.rows.it _ _ _ hx2 (row_of m0 m1))
        simp only [optV]
        one_sign
        rw [tD_val]
        cases el : lookN (c3F F) n with
        | none =>
          refine iteF ?_
          have c1 : ((lookN (c3F F) n).bind fun f => if f.2.1 = m then none else some (Vd.same f.2.2 y.2.2.1)) = none := by rw [el]; rfl
          one_sign
          rw [bD_val]
          cases em : lookM (c3F F) m with
          | none =>
            refine iteF ?_
            have c2 : ((lookM (c3F F) m).bind fun f => if f.1 = n then none else some (Vd.same f.2.2 y.2.2.1)) = none := by rw [em]; rfl
            have z1 := f5.g0 hw1
            have z2 := f5.g0 hw2
            have cq : clashQ R1 R2 (c3F F) n m y.2.2.1 = if (rowN R1 n).length = (rowN R2 m).length then none else some (.size y.2.2.1) := by
              unfold clashQ
              rw [c1, c2]
            one_sign
            refine z_ixT z1 rfl ?_
            one_sign
            refine z_ixL (f5.g0 L1.ra) (by rw [show n = (n.toNat : Int) by omega]; exact atI_nat (ref_at hx1)) ?_
            one_sign
            refine z_ixT z2 rfl ?_
            one_sign
            refine z_ixL (f5.g0 L2.ra) (by rw [show m = (m.toNat : Int) by omega]; exact atI_nat (ref_at hx2)) ?_
            one_sign
            rw [List.length_map, List.length_map]
            refine iteND (fun h7 => ?_) (fun h7 => ?_)
            · one_sign
              refine z_newL (by show 2 ≤ sizeLine; decide) fun t H6 ht f6 t6 => ?_
              refine k t H6 ?_ (f5.trans f6)
              rw [← q5.inl (v := .size y.2.2.1) (by simp only [stepQ, e1, e2, cq, if_neg (show ¬ (rowN R1 n).length = (rowN R2 m).length by omega)])]
              exact ⟨y.2.1, t6, f6.g0 y2⟩
            have hlr : (rowN R1 n).length = (rowN R2 m).length := by omega
            rw [if_pos hlr] at cq
            one_sign
            rw [tD_val, el]
            refine iteT ?_
            have hst : stepQ R1 R2 (c3F F) (y.2.2.1, y.2.2.2.1, y.2.2.2.2) = .inr (c3F F ++ [(n, m, y.2.2.1)], kids R1 R2 y.2.2.1 n m) := by
              simp only [stepQ, e1, e2, cq, el, Option.isSome_none, Bool.false_eq_true, if_false]
            have hrl : (rowN R1 n).length ≤ 26 := (L1.lr _ (List.mem_of_getElem? (row_of n0 n1))).2
            one_sign
            refine z_dputI ht (by unfold tD; rw [List.length_map, sizeLine_eq]; omega) fun H6 f6 t6 nn6 => ?_
            rw [putK_n (by rw [tD_val, el]; rfl)] at t6
            have b6 := f6.g hb (nin n12.symm)
            have fd6 := f6.g hf (nin n13.symm)
            one_sign
            refine z_dputI b6 (by unfold bD; rw [List.length_map, sizeLine_eq]; omega) fun H7 f7 b7 nn7 => ?_
            rw [putK_n (by rw [bD_val, em]; rfl)] at b7
            have t7 := f7.g t6 (nin n12)
            have fd7 := f7.g fd6 (nin n23.symm)
            one_sign
            refine z_dputI fd7 (by unfold fD; rw [List.length_map, sizeLine_eq]; omega) fun H8 f8 fd8 nn8 => ?_
            rw [putK_n (by
              cases e : valV (fD F) (.inl n) with
              | none => rfl
              | some v =>
                obtain ⟨g, hg, hk⟩ := fD_mem e
                exact absurd (List.mem_map_of_mem (f := (·.1)) (List.mem_map_of_mem (f := fun f : C3 => (f.1, f.2.1, f.2.2.2)) hg)) (by rw [show (g.1, g.2.1, g.2.2.2).1 = n from hk]; exact lookN_none el))] at fd8
            have t8 := f8.g t7 (nin n13)
            have b8 := f8.g b7 (nin n23)
            have tp8 : TP H5 H8 := ((f6.tp1 ht (by intro _ z; cases z)).trans (f7.tp1 b6 (by intro _ z; cases z))).trans (f8.tp1 fd7 (by intro _ z; cases z))
            have g8 : Fr [] H H8 := ((f5.in f6 htd).in f7 zb).in f8 zf
            have w6 := f6.g hw (nin (ne_of hw ht (by intro z; cases z)))
            have w7 := f7.g w6 (nin (ne_of w6 b6 (by intro z; cases z)))
            have w8 := f8.g w7 (nin (ne_of w7 fd7 (by intro z; cases z)))
            have q18 := g8.g0 (L1.rows.it _ _ _ hx1 (row_of n0 n1))
            have q28 := g8.g0 (L2.rows.it _ _ _ hx2 (row_of m0 m1))
            one_sign
            refine z_ixT (g8.g0 hw1) rfl ?_
            one_sign
            refine z_ixL (g8.g0 L1.ra) (by rw [show n = (n.toNat : Int) by omega]; exact atI_nat (ref_at hx1)) ?_
            one_sign
            rw [List.length_map]
            refine z_rng1 (rowN R1 n).length rfl (by omega) ?_
            refine z_lcR (fun i xs H' => ∃ W : List W3, xs = w3L W ∧ W3I H' W ∧ w3Q W = (kids R1 R2 y.2.2.1 n m).take i) (fun _ _ _ _ => ⟨[], rfl, fun x hx => (by cases hx), rfl⟩) (fun Rr i2 xs H9 hRr hi2 hxl hP hX f9 => ?_) (fun q xs H9 hq hP hxl hX f9 => ?_)
            · obtain ⟨Wn, rfl, hI, hQ2⟩ := hP
              obtain ⟨xx, hxx⟩ : ∃ x, (rowN R1 n)[i2]? = some x := ⟨_, List.getElem?_eq_getElem hi2⟩
              obtain ⟨yy, hyy⟩ : ∃ x, (rowN R2 m)[i2]? = some x := ⟨_, List.getElem?_eq_getElem (by omega)⟩
              have hkk : (kids R1 R2 y.2.2.1 n m)[i2]? = some (y.2.2.1 ++ [(i2 : Int)], xx, yy) := by
                unfold kids
                rw [List.getElem?_mapIdx, hxx]
                show some (y.2.2.1 ++ [(i2 : Int)], xx, (rowN R2 m).getD i2 0) = _
                rw [List.getD_eq_getElem?_getD, hyy]; rfl
              have hyn : y.2.2.1.map V.int ≠ [] := fun e => by
                have e' := List.map_eq_nil_iff.mp e
                rw [e'] at g1
                cases g1
              leaf_len
              refine z_newL (by show 1 ≤ sizeLine; decide) fun p1 H10 hp1 f10 p10 => ?_
              one_sign
              refine z_addT (f10.g0 (f9.g0 (tp8 _ _ y2))) p10 (by rw [List.length_map, sizeLine_eq]; show _ + 1 ≤ _; omega) hyn (by simp) fun pt H11 hpt f11 p11 => ?_
              have f911 := (f9.trans f10).trans f11
              one_sign
              refine z_ixL (f911.g0 q18) (by rw [Int.zero_add]; exact atI_nat (int_at hxx)) ?_
              one_sign
              refine z_ixT (f911.g0 (g8.g0 hw2)) rfl ?_
              one_sign
              refine z_ixL (f911.g0 (g8.g0 L2.ra)) (by rw [show m = (m.toNat : Int) by omega]; exact atI_nat (ref_at hx2)) ?_
              one_sign
              refine z_ixL (f911.g0 q28) (by rw [Int.zero_add]; exact atI_nat (int_at hyy)) ?_
              one_sign
              refine z_newL (by show 3 ≤ sizeLine; decide) fun bx H12 hbx f12 e12 => ?_
              have fX := (f10.trans f11).trans f12
              refine z_lcY hRr (fX.g0 hX) (f9.trans fX) hxl (by rw [sizeLine_eq]; omega) fun H13 f13 _ _ => ?_
              have t13 : TP H12 H13 := f13.tp1 (fX.g0 hX) (by intro _ z; cases z)
              refine ⟨Wn ++ [(bx, pt, y.2.2.1 ++ [(i2 : Int)], xx, yy)], by unfold w3L; rw [List.map_append]; rfl, ((hI.mono fX.tp).app fun z hz => ?_).mono t13, ?_⟩
              · rw [List.mem_singleton] at hz
                rw [hz]
                refine ⟨e12, ?_⟩
                have := f12.g0 p11
                rw [this, Int.zero_add, List.map_append]
                rfl
              · rw [List.take_succ, hkk, ← hQ2]
                unfold w3Q
                rw [List.map_append]; rfl
            obtain ⟨Wn, rfl, hI, hQ2⟩ := hP
            have hQ2 : w3Q Wn = kids R1 R2 y.2.2.1 n m := by rw [hQ2, List.take_of_length_le]; unfold kids; rw [List.length_mapIdx]; exact Nat.le_refl _
            have hWn : Wn.length ≤ 26 := by
              have := congrArg List.length hQ2
              unfold w3Q kids at this
              rw [List.length_map, List.length_mapIdx] at this
              omega
            have w9 := f9.g0 w8
            one_sign
            refine z_extend w9 hX (by unfold w3L; rw [List.length_map, List.length_map, sizeLine_eq]; omega) fun H10 f10 w10 nn10 => ?_
            have tp10 : TP H9 H10 := f10.tp1 w9 (by intro _ z; cases z)
            have tp510 : TP H5 H10 := (tp8.trans f9.tp).trans tp10
            have zz := q5.inr (fun r hr => (L1.lr r hr).2) hl hst
            have hdrop : w3Q ((Wl ++ Wn).drop (i + 1)) = w3Q (Wl.drop (i + 1)) ++ kids R1 R2 y.2.2.1 n m := by
              rw [List.drop_append_of_le_length (by omega), ← hQ2]
              unfold w3Q
              rw [List.map_append]
            have fx : ∀ {a : Addr} {kvs : List (Key × V)}, H8 a = some (.dK kvs) → H10 a = some (.dK kvs) := fun {a kvs} e => f10.g (f9.g0 e) (nin (ne_of (f9.g0 e) w9 (by intro z; cases z)))
            refine ⟨Wl ++ Wn, F ++ [(n, m, y.2.1, y.2.2.1)], _, _, _, _, _, rfl, ⟨fx (by unfold tD; rw [List.map_append]; exact t8), fx (by unfold bD; rw [List.map_append]; exact b8), fx (by unfold fD; rw [List.map_append]; exact fd8), fun f hf => ?_, by rw [w10]; unfold w3L; rw [List.map_append], (S.wi.mono tp510).app (hI.mono tp10)⟩, by rw [List.length_append]; omega, ?_, ?_, by rw [List.length_append]; omega, (g8.trans f9).in f10 zw⟩
            · rcases List.mem_append.mp hf with hf | hf
              · exact tp510 _ _ (S.i f hf)
              · rw [List.mem_singleton.mp hf]
                exact tp510 _ _ y2
            · rw [hdrop, c3F_app]; exact zz.1
            · rw [hdrop, c3F_app]
              have z2 : mu R1 (c3F F ++ [(n, m, y.2.2.1)]) (w3Q (Wl.drop (i + 1)) ++ kids R1 R2 y.2.2.1 n m) + 1 ≤ mu R1 (c3F F) ((y.2.2.1, y.2.2.2.1, y.2.2.2.2) :: w3Q (Wl.drop (i + 1))) := zz.2.1
              show mu R1 (c3F F ++ [(n, m, y.2.2.1)]) (w3Q (Wl.drop (i + 1)) ++ kids R1 R2 y.2.2.1 n m) + (i + 1) ≤ 2000
              omega
          | some f' =>
            obtain ⟨hfm', hf1'⟩ := lookM_some em
            refine iteT ?_
            one_sign
            refine z_ixD hb (by rw [bD_val, em]; rfl) ?_
            one_sign
            refine iteND (fun h8 => ?_) (fun h8 => ?_)
            · obtain ⟨g, hg, rfl⟩ := c3_mem hfm'
              have hfv := fD_val I5.n1 hg
              one_sign
              refine z_ixD hb (by rw [bD_val, em]; rfl) ?_
              one_sign
              refine z_ixD hf hfv ?_
              one_sign
              refine z_newL (by show 3 ≤ sizeLine; decide) fun t H6 ht f6 t6 => ?_
              refine same g hg ?_ t H6 f6 t6
              unfold clashQ
              rw [c1, em]
              simp only [Option.bind_some]
              rw [if_neg h8]
            have c2 : ((lookM (c3F F) m).bind fun f => if f.1 = n then none else some (Vd.same f.2.2 y.2.2.1)) = none := by rw [em]; exact if_pos h8
            exact absurd (List.mem_map_of_mem (f := (·.1)) hfm') (by rw [h8]; exact lookN_none el)
        | some f =>
          obtain ⟨hfm, hf1⟩ := lookN_some el
          refine iteT ?_
          one_sign
          refine z_ixD ht (by rw [tD_val, el]; rfl) ?_
          one_sign
          refine iteND (fun h8 => ?_) (fun h8 => ?_)
          · obtain ⟨g, hg, rfl⟩ := c3_mem hfm
            have hfv := fD_val I5.n1 hg
            have hf1 : g.1 = n := hf1
            rw [hf1] at hfv
            one_sign
            refine z_ixD hf hfv ?_
            one_sign
            refine z_newL (by show 3 ≤ sizeLine; decide) fun t H6 ht f6 t6 => ?_
            refine same g hg ?_ t H6 f6 t6
            unfold clashQ
            rw [el]
            simp only [Option.bind_some]
            rw [if_neg h8]
          have c1 : ((lookN (c3F F) n).bind fun f => if f.2.1 = m then none else some (Vd.same f.2.2 y.2.2.1)) = none := by rw [el]; exact if_pos h8
          one_sign
          rw [bD_val]
          cases em : lookM (c3F F) m with
          | none =>
            refine iteF ?_
            have c2 : ((lookM (c3F F) m).bind fun f => if f.1 = n then none else some (Vd.same f.2.2 y.2.2.1)) = none := by rw [em]; rfl
            have z1 := f5.g0 hw1
            have z2 := f5.g0 hw2
            have cq : clashQ R1 R2 (c3F F) n m y.2.2.1 = if (rowN R1 n).length = (rowN R2 m).length then none else some (.size y.2.2.1) := by
              unfold clashQ
              rw [c1, c2]
            one_sign
            refine z_ixT z1 rfl ?_
            one_sign
            refine z_ixL (f5.g0 L1.ra) (by rw [show n = (n.toNat : Int) by omega]; exact atI_nat (ref_at hx1)) ?_
            one_sign
            refine z_ixT z2 rfl ?_
            one_sign
            refine z_ixL (f5.g0 L2.ra) (by rw [show m = (m.toNat : Int) by omega]; exact atI_nat (ref_at hx2)) ?_
            one_sign
            rw [List.length_map, List.length_map]
            refine iteND (fun h7 => ?_) (fun h7 => ?_)
            · one_sign
              refine z_newL (by show 2 ≤ sizeLine; decide) fun t H6 ht f6 t6 => ?_
              refine k t H6 ?_ (f5.trans f6)
              rw [← q5.inl (v := .size y.2.2.1) (by simp only [stepQ, e1, e2, cq, if_neg (show ¬ (rowN R1 n).length = (rowN R2 m).length by omega)])]
              exact ⟨y.2.1, t6, f6.g0 y2⟩
            have hlr : (rowN R1 n).length = (rowN R2 m).length := by omega
            rw [if_pos hlr] at cq
            one_sign
            rw [tD_val, el]
            refine iteF ?_
            one_sign
            have zz := go (by simp only [stepQ, e1, e2, cq, el, Option.isSome_some, if_true])
            exact ⟨Wl, F, _, _, _, _, _, rfl, S, by omega, zz.1, zz.2, by omega, f5⟩
          | some f' =>
            obtain ⟨hfm', hf1'⟩ := lookM_some em
            refine iteT ?_
            one_sign
            refine z_ixD hb (by rw [bD_val, em]; rfl) ?_
            one_sign
            refine iteND (fun h8 => ?_) (fun h8 => ?_)
            · obtain ⟨g, hg, rfl⟩ := c3_mem hfm'
              have hfv := fD_val I5.n1 hg
              one_sign
              refine z_ixD hb (by rw [bD_val, em]; rfl) ?_
              one_sign
              refine z_ixD hf hfv ?_
              one_sign
              refine z_newL (by show 3 ≤ sizeLine; decide) fun t H6 ht f6 t6 => ?_
              refine same g hg ?_ t H6 f6 t6
              unfold clashQ
              rw [c1, em]
              simp only [Option.bind_some]
              rw [if_neg h8]
            have c2 : ((lookM (c3F F) m).bind fun f => if f.1 = n then none else some (Vd.same f.2.2 y.2.2.1)) = none := by rw [em]; exact if_pos h8
            have z1 := f5.g0 hw1
            have z2 := f5.g0 hw2
            have cq : clashQ R1 R2 (c3F F) n m y.2.2.1 = if (rowN R1 n).length = (rowN R2 m).length then none else some (.size y.2.2.1) := by
              unfold clashQ
              rw [c1, c2]
            one_sign
            refine z_ixT z1 rfl ?_
            one_sign
            refine z_ixL (f5.g0 L1.ra) (by rw [show n = (n.toNat : Int) by omega]; exact atI_nat (ref_at hx1)) ?_
            one_sign
            refine z_ixT z2 rfl ?_
            one_sign
            refine z_ixL (f5.g0 L2.ra) (by rw [show m = (m.toNat : Int) by omega]; exact atI_nat (ref_at hx2)) ?_
            one_sign
            rw [List.length_map, List.length_map]
            refine iteND (fun h7 => ?_) (fun h7 => ?_)
            · one_sign
              refine z_newL (by show 2 ≤ sizeLine; decide) fun t H6 ht f6 t6 => ?_
              refine k t H6 ?_ (f5.trans f6)
              rw [← q5.inl (v := .size y.2.2.1) (by simp only [stepQ, e1, e2, cq, if_neg (show ¬ (rowN R1 n).length = (rowN R2 m).length by omega)])]
              exact ⟨y.2.1, t6, f6.g0 y2⟩
            have hlr : (rowN R1 n).length = (rowN R2 m).length := by omega
            rw [if_pos hlr] at cq
            one_sign
            rw [tD_val, el]
            refine iteF ?_
            one_sign
            have zz := go (by simp only [stepQ, e1, e2, cq, el, Option.isSome_some, if_true])
            exact ⟨Wl, F, _, _, _, _, _, rfl, S, by omega, zz.1, zz.2, by omega, f5⟩
  · obtain ⟨Wl, F, v6, v7, v8, v9, v10, rfl, S, hiW, q5, m5, hWl, f5⟩ := hJ
    omega
end

end LX
namespace LX
open PySem PySem.Spec PyProof.Rows L2 NdefX
set_option hygiene false in
local macro_rules | `(tactic| k_memK) => `(tactic| first | exact W.na_Comparison_one | exact W.na_Comparison_other | exact W.na_Comparison_there | exact W.na_Comparison_back | exact W.na_Comparison_first | exact W.na_Store_room | exact W.na_Store_entries | exact W.na_Store_words | exact W.na_Store__places | exact W.na_Store__least | exact W.na_Space_store | exact W.na_Space_pressure | exact W.na_Space_always | exact W.na_Space_allocations | exact W.na_Space_collections | exact W.na_Space__roots | exact W.na_Space__held | exact W.na_Space__saved)
set_option hygiene false in
local macro_rules | `(tactic| k_ownIn) => `(tactic| first | exact W.C_Comparison | exact W.C_Store | exact W.C_Space)
local macro_rules | `(tactic| none_booked) => `(tactic| first | assumption | (refine Fr.g0 (by assumption) ?_; none_booked))
local macro_rules | `(tactic| one_sign) => `(tactic| repeat (first
  | refine Stp.h ?_
  | ((with_reducible refine' z_fld1 ?k0 ?k1 ?k2 ?k3 ?_); (case k0 => none_booked); (case k1 => k_ownIn); (case k2 => k_memK); (case k3 => rfl))
  | ((with_reducible refine' z_meth1 ?k0 ?k1 ?_); (case k0 => none_booked); (case k1 => rfl))
  | ((with_reducible refine' z_bmL ?k0 ?_); (case k0 => none_booked))
  | ((with_reducible refine' z_lenL ?k0 ?_); (case k0 => none_booked))
  | ((with_reducible refine' z_lenT ?k0 ?_); (case k0 => none_booked))
  | ((with_reducible refine' z_lenD ?k0 ?_); (case k0 => none_booked))
  | ((with_reducible refine' z_truL ?k0 ?_); (case k0 => none_booked))
  | ((with_reducible refine' z_truD ?k0 ?_); (case k0 => none_booked))
  | ((with_reducible refine' z_truT ?k0 ?_); (case k0 => none_booked))
  | ((with_reducible refine' z_inDIP ?k0 ?_); (case k0 => none_booked))
  | ((with_reducible refine' z_inDIN ?k0 ?_); (case k0 => none_booked))
  | ((with_reducible refine' z_inDfP ?k0 ?_); (case k0 => none_booked))
  | ((with_reducible refine' z_inDfN ?k0 ?_); (case k0 => none_booked))
  | ((with_reducible refine' z_iList1 ?k0 ?_); (case k0 => none_booked))
  | ((with_reducible refine' z_isi0 ?k0 ?k1 ?k2 ?_); (case k0 => exact (ClsV.ty _)); (case k1 => exact (TyX.base (TyOf.lst (by none_booked)))); (case k2 => first | exact kt_list_int | exact kt_list_bool | exact kt_list_str | exact kt_list_list | exact kt_list_tuple | exact kt_list_dict))
  | ((with_reducible refine' z_rI ?k0 ?_); (case k0 => first | exact (by decide : (0 : Int) < _) | exact ⟨by decide, by decide⟩ | exact ⟨by decide, by decide, by decide⟩ | (show (0 : Int) < _; omega)))
  | ((with_reducible refine' z_mulI ?k0 ?_); (case k0 => first | exact Or.inr ⟨by decide, by decide⟩ | exact Or.inl ⟨by decide, by decide⟩ | exact Or.inl ⟨by omega, by omega⟩ | exact Or.inr ⟨by omega, by omega⟩))))
local macro_rules | `(tactic| leaf_len) => `(tactic| (simp only [wipe, List.map_cons, List.map_nil, List.set_cons_zero, List.set_cons_succ]; one_sign; refine z_ok rfl ?_; one_sign))
/-- the same, down to depth d -/
def EI : Nat → Hp → V → V → Prop
  | 0, _, x, y => (∃ n, x = .int n ∧ y = .int n) ∨ (∃ z : Str, x = .str z ∧ y = .str z ∧ z.length ≤ 10)
  | d + 1, H, x, y => ((∃ n, x = .int n ∧ y = .int n) ∨ (∃ z : Str, x = .str z ∧ y = .str z ∧ z.length ≤ 10)) ∨ ∃ p q us vs, x = .ref p ∧ y = .ref q ∧ ((H p = some (.tup us) ∧ H q = some (.tup vs)) ∨ (H p = some (.lst us) ∧ H q = some (.lst vs))) ∧ us.length = vs.length ∧ us.length ≤ 1000 ∧ ∀ (i : Nat) x y, us[i]? = some x → vs[i]? = some y → EI d H x y
theorem EI.keep {H H' : Hp} (f : Fr [] H H') : ∀ (d : Nat) {x y : V}, EI d H x y → EI d H' x y
  | 0, _, _, h => h
  | d + 1, _, _, h => h.imp id fun ⟨p, q, us, vs, e1, e2, h, hl, hl', hE⟩ => ⟨p, q, us, vs, e1, e2, h.imp (fun z => ⟨f.g0 z.1, f.g0 z.2⟩) (fun z => ⟨f.g0 z.1, f.g0 z.2⟩), hl, hl', fun i x y h1 h2 => EI.keep f d (hE i x y h1 h2)⟩
def sp_no : Sp := fun vs _ _ _ => vs.length = 2 ∧ False
def sp_ti (d : Nat) : Sp := fun vs H Q _ => ∃ a b us ws, vs = [.ref a, .ref b] ∧ H a = some (.tup us) ∧ H b = some (.tup ws) ∧ us.length = ws.length ∧ us.length ≤ 1000 ∧ (∀ (i : Nat) x y, us[i]? = some x → ws[i]? = some y → EI d H x y) ∧
  ∀ H', Fr [] H H' → Q (.bl true) H'
section
variable {P : Program} {w : World} {K : PySem.W.Frag} {mg : Str → Option Value} {base : Heap}
theorem ok_ti0 (W : WT P K mg base) (R : FnOk P w K mg base CX0 (2 : Nat) W.f__law_tuple_is W.fd__law_tuple_is ["_law_told", "_law_due_here"] (sp_no)) : FnOk P w K mg base CX0 (3 : Nat) W.f__law_tuple_is W.fd__law_tuple_is ["_law_told", "_law_due_here"] (sp_ti 0) := by
  refine W.F__law_tuple_is.ok sc__law_tuple_is (fun vs H Q E h => by obtain ⟨a, b, us, ws, rfl, ha, hb, hl, hl', hE, k⟩ := h; rfl) (fun cdv A outer s H vs Q E hr h => ?_)
  obtain ⟨a, b, us, ws, rfl, ha, hb, hl, hl', hE, k⟩ := h
  have hu1 := hu_of hr
  have hu64 := hu64_of hr
  refine ⟨_, (pss_cons (ps_if (PW.pt (pw_or (pt_not (pt_truth (pe_callB call_isi (by rfl) W.n_isinstance bb_isinstance (pa_cons (pv 0) (pa_cons (pe_bt rfl W.n_tuple bb_tuple) pa_nil))) (by intro _; rfl))) (pw_or1 (pt_cmpR (op_neU hu64) (pe_callB call_lenU (by rfl) W.n_len bb_len (pa_cons (pv 0) pa_nil)) (pe_callB call_lenU (by rfl) W.n_len bb_len (pa_cons (pv 1) pa_nil)) (by first | exact nomark _ | rfl))))) (pss_one (ps_ret pe_bl)) pss_nil)
      (pss_cons (ps_for PassesOwn.never rfl (pi_range1 (by rfl) W.n_range (pa_cons (pe_callB call_lenU (by rfl) W.n_len bb_len (pa_cons (pv 1) pa_nil)) pa_nil)) (pg_name (i := 2) sc__law_tuple_is.nd rfl (by first | exact Or.inl rfl | exact Or.inr rfl)) (pss_cons (ps_if (PW.pt (pw_and (pt_truth (pe_callB call_isi (by rfl) W.n_isinstance bb_isinstance (pa_cons (pe_ix (ix_U hu1) (pv 1) (pv 2) (fun _ _ => rfl)) (pa_cons (pe_bt rfl W.n_int bb_int) pa_nil))) (by intro _; rfl)) (pw_and1 (pt_not (pt_truth (pe_call (ok__law_is W) (hr.mono (by decide)) rfl W.g__law_is W.F__law_is.kp W.b__law_is .nil pass0 (pa_cons (pe_ix (ix_U hu1) (pv 0) (pv 2) (fun _ _ => rfl)) (pa_cons (pe_ix (ix_U hu1) (pv 1) (pv 2) (fun _ _ => rfl)) pa_nil))) (by intro _; rfl)))))) (pss_one (ps_ret pe_bl)) pss_nil)
      (pss_cons (ps_if (PW.pt (pw_and (pt_truth (pe_callB call_isi (by rfl) W.n_isinstance bb_isinstance (pa_cons (pe_ix (ix_U hu1) (pv 1) (pv 2) (fun _ _ => rfl)) (pa_cons (pe_bt rfl W.n_str bb_str) pa_nil))) (by intro _; rfl)) (pw_and1 (PW.pt (pw_or (pt_not (pt_truth (pe_callB call_isi (by rfl) W.n_isinstance bb_isinstance (pa_cons (pe_ix (ix_U hu1) (pv 0) (pv 2) (fun _ _ => rfl)) (pa_cons (pe_bt rfl W.n_str bb_str) pa_nil))) (by intro _; rfl))) (pw_or1 (pt_cmpR (op_neU hu64) (pe_ix (ix_U hu1) (pv 0) (pv 2) (fun _ _ => rfl)) (pe_ix (ix_U hu1) (pv 1) (pv 2) (fun _ _ => rfl)) (by first | exact nomark _ | rfl)))))))) (pss_one (ps_ret pe_bl)) pss_nil)
      (pss_cons (ps_if (PW.pt (pw_and (pt_truth (pe_callB call_isi (by rfl) W.n_isinstance bb_isinstance (pa_cons (pe_ix (ix_U hu1) (pv 1) (pv 2) (fun _ _ => rfl)) (pa_cons (pe_bt rfl W.n_tuple bb_tuple) pa_nil))) (by intro _; rfl)) (pw_and1 (pt_not (pt_truth (pe_call (R) (hr.mono (by decide)) rfl W.g__law_tuple_is W.F__law_tuple_is.kp W.b__law_tuple_is .nil pass0 (pa_cons (pe_ix (ix_U hu1) (pv 0) (pv 2) (fun _ _ => rfl)) (pa_cons (pe_ix (ix_U hu1) (pv 1) (pv 2) (fun _ _ => rfl)) pa_nil))) (by intro _; rfl)))))) (pss_one (ps_ret pe_bl)) pss_nil)
      (pss_one (ps_if (pt_truth (pe_callB call_isi (by rfl) W.n_isinstance bb_isinstance (pa_cons (pe_ix (ix_U hu1) (pv 1) (pv 2) (fun _ _ => rfl)) (pa_cons (pe_bt rfl W.n_list bb_list) pa_nil))) (by intro _; rfl)) (pss_one (ps_if (PW.pt (pw_or (pt_not (pt_truth (pe_callB call_isi (by rfl) W.n_isinstance bb_isinstance (pa_cons (pe_ix (ix_U hu1) (pv 0) (pv 2) (fun _ _ => rfl)) (pa_cons (pe_bt rfl W.n_list bb_list) pa_nil))) (by intro _; rfl))) (pw_or1 (pt_not (pt_truth (pe_call (R) (hr.mono (by decide)) rfl W.g__law_tuple_is W.F__law_tuple_is.kp W.b__law_tuple_is .nil pass0 (pa_cons (pe_callTy call_tupleU (by rfl) W.n_tuple bb_tuple (pa_cons (pe_ix (ix_U hu1) (pv 0) (pv 2) (fun _ _ => rfl)) pa_nil)) (pa_cons (pe_callTy call_tupleU (by rfl) W.n_tuple bb_tuple (pa_cons (pe_ix (ix_U hu1) (pv 1) (pv 2) (fun _ _ => rfl)) pa_nil)) pa_nil))) (by intro _; rfl)))))) (pss_one (ps_ret pe_bl)) pss_nil)) pss_nil))))))
      (pss_one (ps_ret pe_bl)))), ?_⟩
  refine z_start (σ := [some _, some _, none]) rfl ?_
  one_sign
  refine z_isi0 (ClsV.ty _) (TyX.base (TyOf.tup ha)) kt_tuple_tuple ?_
  one_sign
  refine iteND (fun h => absurd (by rw [hl]) h) (fun _ => ?_)
  one_sign
  refine z_rng1 ws.length rfl (by omega) ?_
  refine for_range (lo := 0) (n := ws.length) (fun j σ H' => ∃ v : Option V, σ = [some (.ref a), some (.ref b), v] ∧ Fr [] H H') ⟨_, rfl, Fr.rfl'⟩ (fun j σ H2 hj hP => ?_) (fun σ H2 hP => ?_)
  · obtain ⟨v, rfl, f⟩ := hP
    have ha2 := f.g0 ha
    have hb2 := f.g0 hb
    obtain ⟨x, hx⟩ : ∃ x, us[j]? = some x := ⟨_, List.getElem?_eq_getElem (by omega)⟩
    obtain ⟨y, hy⟩ : ∃ y, ws[j]? = some y := ⟨_, List.getElem?_eq_getElem hj⟩
    have hr := hE j x y hx hy
    one_sign
    rcases hr with ⟨n, rfl, rfl⟩ | ⟨z, rfl, rfl, hz⟩
    · refine z_ixT hb2 (by rw [Int.zero_add]; exact atI_nat hy) ?_
      one_sign
      refine z_ixT ha2 (by rw [Int.zero_add]; exact atI_nat hx) ?_
      one_sign
      refine z_ixT hb2 (by rw [Int.zero_add]; exact atI_nat hy) ?_
      one_sign
      refine ⟨n, n, rfl, ?_⟩
      one_sign
      refine iteND (fun h => absurd rfl h) (fun _ => ?_)
      one_sign
      refine z_ixT hb2 (by rw [Int.zero_add]; exact atI_nat hy) ?_
      one_sign
      refine z_ixT hb2 (by rw [Int.zero_add]; exact atI_nat hy) ?_
      one_sign
      refine z_ixT hb2 (by rw [Int.zero_add]; exact atI_nat hy) ?_
      one_sign
      exact ⟨_, rfl, f⟩
    · refine z_ixT hb2 (by rw [Int.zero_add]; exact atI_nat hy) ?_
      one_sign
      refine z_ixT hb2 (by rw [Int.zero_add]; exact atI_nat hy) ?_
      one_sign
      refine z_ixT ha2 (by rw [Int.zero_add]; exact atI_nat hx) ?_
      one_sign
      refine z_ixT ha2 (by rw [Int.zero_add]; exact atI_nat hx) ?_
      one_sign
      refine z_ixT hb2 (by rw [Int.zero_add]; exact atI_nat hy) ?_
      one_sign
      first | refine iteND (fun h => absurd rfl h) (fun _ => ?_) | skip
      try (one_sign)
      refine z_ixT hb2 (by rw [Int.zero_add]; exact atI_nat hy) ?_
      one_sign
      refine z_ixT hb2 (by rw [Int.zero_add]; exact atI_nat hy) ?_
      one_sign
      exact ⟨_, rfl, f⟩
  · obtain ⟨v, rfl, f⟩ := hP
    one_sign
    exact k H2 f
theorem ok_ti1 (W : WT P K mg base) (R : FnOk P w K mg base CX0 (3 : Nat) W.f__law_tuple_is W.fd__law_tuple_is ["_law_told", "_law_due_here"] (sp_ti 0)) : FnOk P w K mg base CX0 (4 : Nat) W.f__law_tuple_is W.fd__law_tuple_is ["_law_told", "_law_due_here"] (sp_ti 1) := by
  refine W.F__law_tuple_is.ok sc__law_tuple_is (fun vs H Q E h => by obtain ⟨a, b, us, ws, rfl, ha, hb, hl, hl', hE, k⟩ := h; rfl) (fun cdv A outer s H vs Q E hr h => ?_)
  obtain ⟨a, b, us, ws, rfl, ha, hb, hl, hl', hE, k⟩ := h
  have hu1 := hu_of hr
  have hu64 := hu64_of hr
  refine ⟨_, (pss_cons (ps_if (PW.pt (pw_or (pt_not (pt_truth (pe_callB call_isi (by rfl) W.n_isinstance bb_isinstance (pa_cons (pv 0) (pa_cons (pe_bt rfl W.n_tuple bb_tuple) pa_nil))) (by intro _; rfl))) (pw_or1 (pt_cmpR (op_neU hu64) (pe_callB call_lenU (by rfl) W.n_len bb_len (pa_cons (pv 0) pa_nil)) (pe_callB call_lenU (by rfl) W.n_len bb_len (pa_cons (pv 1) pa_nil)) (by first | exact nomark _ | rfl))))) (pss_one (ps_ret pe_bl)) pss_nil)
      (pss_cons (ps_for PassesOwn.never rfl (pi_range1 (by rfl) W.n_range (pa_cons (pe_callB call_lenU (by rfl) W.n_len bb_len (pa_cons (pv 1) pa_nil)) pa_nil)) (pg_name (i := 2) sc__law_tuple_is.nd rfl (by first | exact Or.inl rfl | exact Or.inr rfl)) (pss_cons (ps_if (PW.pt (pw_and (pt_truth (pe_callB call_isi (by rfl) W.n_isinstance bb_isinstance (pa_cons (pe_ix (ix_U hu1) (pv 1) (pv 2) (fun _ _ => rfl)) (pa_cons (pe_bt rfl W.n_int bb_int) pa_nil))) (by intro _; rfl)) (pw_and1 (pt_not (pt_truth (pe_call (ok__law_is W) (hr.mono (by decide)) rfl W.g__law_is W.F__law_is.kp W.b__law_is .nil pass0 (pa_cons (pe_ix (ix_U hu1) (pv 0) (pv 2) (fun _ _ => rfl)) (pa_cons (pe_ix (ix_U hu1) (pv 1) (pv 2) (fun _ _ => rfl)) pa_nil))) (by intro _; rfl)))))) (pss_one (ps_ret pe_bl)) pss_nil)
      (pss_cons (ps_if (PW.pt (pw_and (pt_truth (pe_callB call_isi (by rfl) W.n_isinstance bb_isinstance (pa_cons (pe_ix (ix_U hu1) (pv 1) (pv 2) (fun _ _ => rfl)) (pa_cons (pe_bt rfl W.n_str bb_str) pa_nil))) (by intro _; rfl)) (pw_and1 (PW.pt (pw_or (pt_not (pt_truth (pe_callB call_isi (by rfl) W.n_isinstance bb_isinstance (pa_cons (pe_ix (ix_U hu1) (pv 0) (pv 2) (fun _ _ => rfl)) (pa_cons (pe_bt rfl W.n_str bb_str) pa_nil))) (by intro _; rfl))) (pw_or1 (pt_cmpR (op_neU hu64) (pe_ix (ix_U hu1) (pv 0) (pv 2) (fun _ _ => rfl)) (pe_ix (ix_U hu1) (pv 1) (pv 2) (fun _ _ => rfl)) (by first | exact nomark _ | rfl)))))))) (pss_one (ps_ret pe_bl)) pss_nil)
      (pss_cons (ps_if (PW.pt (pw_and (pt_truth (pe_callB call_isi (by rfl) W.n_isinstance bb_isinstance (pa_cons (pe_ix (ix_U hu1) (pv 1) (pv 2) (fun _ _ => rfl)) (pa_cons (pe_bt rfl W.n_tuple bb_tuple) pa_nil))) (by intro _; rfl)) (pw_and1 (pt_not (pt_truth (pe_call (R) (hr.mono (by decide)) rfl W.g__law_tuple_is W.F__law_tuple_is.kp W.b__law_tuple_is .nil pass0 (pa_cons (pe_ix (ix_U hu1) (pv 0) (pv 2) (fun _ _ => rfl)) (pa_cons (pe_ix (ix_U hu1) (pv 1) (pv 2) (fun _ _ => rfl)) pa_nil))) (by intro _; rfl)))))) (pss_one (ps_ret pe_bl)) pss_nil)
      (pss_one (ps_if (pt_truth (pe_callB call_isi (by rfl) W.n_isinstance bb_isinstance (pa_cons (pe_ix (ix_U hu1) (pv 1) (pv 2) (fun _ _ => rfl)) (pa_cons (pe_bt rfl W.n_list bb_list) pa_nil))) (by intro _; rfl)) (pss_one (ps_if (PW.pt (pw_or (pt_not (pt_truth (pe_callB call_isi (by rfl) W.n_isinstance bb_isinstance (pa_cons (pe_ix (ix_U hu1) (pv 0) (pv 2) (fun _ _ => rfl)) (pa_cons (pe_bt rfl W.n_list bb_list) pa_nil))) (by intro _; rfl))) (pw_or1 (pt_not (pt_truth (pe_call (R) (hr.mono (by decide)) rfl W.g__law_tuple_is W.F__law_tuple_is.kp W.b__law_tuple_is .nil pass0 (pa_cons (pe_callTy call_tupleU (by rfl) W.n_tuple bb_tuple (pa_cons (pe_ix (ix_U hu1) (pv 0) (pv 2) (fun _ _ => rfl)) pa_nil)) (pa_cons (pe_callTy call_tupleU (by rfl) W.n_tuple bb_tuple (pa_cons (pe_ix (ix_U hu1) (pv 1) (pv 2) (fun _ _ => rfl)) pa_nil)) pa_nil))) (by intro _; rfl)))))) (pss_one (ps_ret pe_bl)) pss_nil)) pss_nil))))))
      (pss_one (ps_ret pe_bl)))), ?_⟩
  refine z_start (σ := [some _, some _, none]) rfl ?_
  one_sign
  refine z_isi0 (ClsV.ty _) (TyX.base (TyOf.tup ha)) kt_tuple_tuple ?_
  one_sign
  refine iteND (fun h => absurd (by rw [hl]) h) (fun _ => ?_)
  one_sign
  refine z_rng1 ws.length rfl (by omega) ?_
  refine for_range (lo := 0) (n := ws.length) (fun j σ H' => ∃ v : Option V, σ = [some (.ref a), some (.ref b), v] ∧ Fr [] H H') ⟨_, rfl, Fr.rfl'⟩ (fun j σ H2 hj hP => ?_) (fun σ H2 hP => ?_)
  · obtain ⟨v, rfl, f⟩ := hP
    have ha2 := f.g0 ha
    have hb2 := f.g0 hb
    obtain ⟨x, hx⟩ : ∃ x, us[j]? = some x := ⟨_, List.getElem?_eq_getElem (by omega)⟩
    obtain ⟨y, hy⟩ : ∃ y, ws[j]? = some y := ⟨_, List.getElem?_eq_getElem hj⟩
    have hr := hE j x y hx hy
    one_sign
    rcases hr with (⟨n, rfl, rfl⟩ | ⟨z, rfl, rfl, hz⟩) | ⟨p, q, us2, vs2, rfl, rfl, hpq, hl2, hl2', hE2⟩
    · refine z_ixT hb2 (by rw [Int.zero_add]; exact atI_nat hy) ?_
      one_sign
      refine z_ixT ha2 (by rw [Int.zero_add]; exact atI_nat hx) ?_
      one_sign
      refine z_ixT hb2 (by rw [Int.zero_add]; exact atI_nat hy) ?_
      one_sign
      refine ⟨n, n, rfl, ?_⟩
      one_sign
      refine iteND (fun h => absurd rfl h) (fun _ => ?_)
      one_sign
      refine z_ixT hb2 (by rw [Int.zero_add]; exact atI_nat hy) ?_
      one_sign
      refine z_ixT hb2 (by rw [Int.zero_add]; exact atI_nat hy) ?_
      one_sign
      refine z_ixT hb2 (by rw [Int.zero_add]; exact atI_nat hy) ?_
      one_sign
      exact ⟨_, rfl, f⟩
    · refine z_ixT hb2 (by rw [Int.zero_add]; exact atI_nat hy) ?_
      one_sign
      refine z_ixT hb2 (by rw [Int.zero_add]; exact atI_nat hy) ?_
      one_sign
      refine z_ixT ha2 (by rw [Int.zero_add]; exact atI_nat hx) ?_
      one_sign
      refine z_ixT ha2 (by rw [Int.zero_add]; exact atI_nat hx) ?_
      one_sign
      refine z_ixT hb2 (by rw [Int.zero_add]; exact atI_nat hy) ?_
      one_sign
      first | refine iteND (fun h => absurd rfl h) (fun _ => ?_) | skip
      try (one_sign)
      refine z_ixT hb2 (by rw [Int.zero_add]; exact atI_nat hy) ?_
      one_sign
      refine z_ixT hb2 (by rw [Int.zero_add]; exact atI_nat hy) ?_
      one_sign
      exact ⟨_, rfl, f⟩
    rcases hpq with ⟨hp, hq⟩ | ⟨hp, hq⟩
    · have hp2 := f.g0 hp
      have hq2 := f.g0 hq
      refine z_ixT hb2 (by rw [Int.zero_add]; exact atI_nat hy) ?_
      one_sign
      refine z_isi0 (ClsV.ty _) (TyX.base (TyOf.tup hq2)) kt_tuple_int ?_
      one_sign
      refine z_ixT hb2 (by rw [Int.zero_add]; exact atI_nat hy) ?_
      one_sign
      refine z_isi0 (ClsV.ty _) (TyX.base (TyOf.tup hq2)) kt_tuple_str ?_
      one_sign
      refine z_ixT hb2 (by rw [Int.zero_add]; exact atI_nat hy) ?_
      one_sign
      refine z_isi0 (ClsV.ty _) (TyX.base (TyOf.tup hq2)) kt_tuple_tuple ?_
      one_sign
      refine z_ixT ha2 (by rw [Int.zero_add]; exact atI_nat hx) ?_
      one_sign
      refine z_ixT hb2 (by rw [Int.zero_add]; exact atI_nat hy) ?_
      one_sign
      refine ⟨p, q, us2, vs2, rfl, hp2, hq2, hl2, hl2', fun i x y h1 h2 => EI.keep f _ (hE2 i x y h1 h2), fun H3 f3 => ?_⟩
      have f := f.trans f3
      have ha2 := f3.g0 ha2
      have hb2 := f3.g0 hb2
      have hq2 := f3.g0 hq2
      one_sign
      refine z_ixT hb2 (by rw [Int.zero_add]; exact atI_nat hy) ?_
      one_sign
      refine z_isi0 (ClsV.ty _) (TyX.base (TyOf.tup hq2)) kt_tuple_list ?_
      one_sign
      exact ⟨_, rfl, f⟩
    · have hp2 := f.g0 hp
      have hq2 := f.g0 hq
      refine z_ixT hb2 (by rw [Int.zero_add]; exact atI_nat hy) ?_
      one_sign
      refine z_ixT hb2 (by rw [Int.zero_add]; exact atI_nat hy) ?_
      one_sign
      refine z_ixT hb2 (by rw [Int.zero_add]; exact atI_nat hy) ?_
      one_sign
      refine z_ixT hb2 (by rw [Int.zero_add]; exact atI_nat hy) ?_
      one_sign
      refine z_ixT ha2 (by rw [Int.zero_add]; exact atI_nat hx) ?_
      one_sign
      refine z_ixT ha2 (by rw [Int.zero_add]; exact atI_nat hx) ?_
      one_sign
      refine z_tupL hp2 fun p' H3 hp' f3 p3 => ?_
      have f := f.trans f3
      have ha2 := f3.g0 ha2
      have hb2 := f3.g0 hb2
      have hq2 := f3.g0 hq2
      one_sign
      refine z_ixT hb2 (by rw [Int.zero_add]; exact atI_nat hy) ?_
      one_sign
      refine z_tupL hq2 fun q' H4 hq' f4 q4 => ?_
      have f := f.trans f4
      one_sign
      refine ⟨p', q', us2, vs2, rfl, f4.g0 p3, q4, hl2, hl2', fun i x y h1 h2 => EI.keep f _ (hE2 i x y h1 h2), fun H5 f5 => ?_⟩
      one_sign
      exact ⟨_, rfl, f.trans f5⟩
  · obtain ⟨v, rfl, f⟩ := hP
    one_sign
    exact k H2 f
theorem ok_ti2 (W : WT P K mg base) (R : FnOk P w K mg base CX0 (4 : Nat) W.f__law_tuple_is W.fd__law_tuple_is ["_law_told", "_law_due_here"] (sp_ti 1)) : FnOk P w K mg base CX0 (5 : Nat) W.f__law_tuple_is W.fd__law_tuple_is ["_law_told", "_law_due_here"] (sp_ti 2) := by
  refine W.F__law_tuple_is.ok sc__law_tuple_is (fun vs H Q E h => by obtain ⟨a, b, us, ws, rfl, ha, hb, hl, hl', hE, k⟩ := h; rfl) (fun cdv A outer s H vs Q E hr h => ?_)
  obtain ⟨a, b, us, ws, rfl, ha, hb, hl, hl', hE, k⟩ := h
  have hu1 := hu_of hr
  have hu64 := hu64_of hr
  refine ⟨_, (pss_cons (ps_if (PW.pt (pw_or (pt_not (pt_truth (pe_callB call_isi (by rfl) W.n_isinstance bb_isinstance (pa_cons (pv 0) (pa_cons (pe_bt rfl W.n_tuple bb_tuple) pa_nil))) (by intro _; rfl))) (pw_or1 (pt_cmpR (op_neU hu64) (pe_callB call_lenU (by rfl) W.n_len bb_len (pa_cons (pv 0) pa_nil)) (pe_callB call_lenU (by rfl) W.n_len bb_len (pa_cons (pv 1) pa_nil)) (by first | exact nomark _ | rfl))))) (pss_one (ps_ret pe_bl)) pss_nil)
      (pss_cons (ps_for PassesOwn.never rfl (pi_range1 (by rfl) W.n_range (pa_cons (pe_callB call_lenU (by rfl) W.n_len bb_len (pa_cons (pv 1) pa_nil)) pa_nil)) (pg_name (i := 2) sc__law_tuple_is.nd rfl (by first | exact Or.inl rfl | exact Or.inr rfl)) (pss_cons (ps_if (PW.pt (pw_and (pt_truth (pe_callB call_isi (by rfl) W.n_isinstance bb_isinstance (pa_cons (pe_ix (ix_U hu1) (pv 1) (pv 2) (fun _ _ => rfl)) (pa_cons (pe_bt rfl W.n_int bb_int) pa_nil))) (by intro _; rfl)) (pw_and1 (pt_not (pt_truth (pe_call (ok__law_is W) (hr.mono (by decide)) rfl W.g__law_is W.F__law_is.kp W.b__law_is .nil pass0 (pa_cons (pe_ix (ix_U hu1) (pv 0) (pv 2) (fun _ _ => rfl)) (pa_cons (pe_ix (ix_U hu1) (pv 1) (pv 2) (fun _ _ => rfl)) pa_nil))) (by intro _; rfl)))))) (pss_one (ps_ret pe_bl)) pss_nil)
      (pss_cons (ps_if (PW.pt (pw_and (pt_truth (pe_callB call_isi (by rfl) W.n_isinstance bb_isinstance (pa_cons (pe_ix (ix_U hu1) (pv 1) (pv 2) (fun _ _ => rfl)) (pa_cons (pe_bt rfl W.n_str bb_str) pa_nil))) (by intro _; rfl)) (pw_and1 (PW.pt (pw_or (pt_not (pt_truth (pe_callB call_isi (by rfl) W.n_isinstance bb_isinstance (pa_cons (pe_ix (ix_U hu1) (pv 0) (pv 2) (fun _ _ => rfl)) (pa_cons (pe_bt rfl W.n_str bb_str) pa_nil))) (by intro _; rfl))) (pw_or1 (pt_cmpR (op_neU hu64) (pe_ix (ix_U hu1) (pv 0) (pv 2) (fun _ _ => rfl)) (pe_ix (ix_U hu1) (pv 1) (pv 2) (fun _ _ => rfl)) (by first | exact nomark _ | rfl)))))))) (pss_one (ps_ret pe_bl)) pss_nil)
      (pss_cons (ps_if (PW.pt (pw_and (pt_truth (pe_callB call_isi (by rfl) W.n_isinstance bb_isinstance (pa_cons (pe_ix (ix_U hu1) (pv 1) (pv 2) (fun _ _ => rfl)) (pa_cons (pe_bt rfl W.n_tuple bb_tuple) pa_nil))) (by intro _; rfl)) (pw_and1 (pt_not (pt_truth (pe_call (R) (hr.mono (by decide)) rfl W.g__law_tuple_is W.F__law_tuple_is.kp W.b__law_tuple_is .nil pass0 (pa_cons (pe_ix (ix_U hu1) (pv 0) (pv 2) (fun _ _ => rfl)) (pa_cons (pe_ix (ix_U hu1) (pv 1) (pv 2) (fun _ _ => rfl)) pa_nil))) (by intro _; rfl)))))) (pss_one (ps_ret pe_bl)) pss_nil)
      (pss_one (ps_if (pt_truth (pe_callB call_isi (by rfl) W.n_isinstance bb_isinstance (pa_cons (pe_ix (ix_U hu1) (pv 1) (pv 2) (fun _ _ => rfl)) (pa_cons (pe_bt rfl W.n_list bb_list) pa_nil))) (by intro _; rfl)) (pss_one (ps_if (PW.pt (pw_or (pt_not (pt_truth (pe_callB call_isi (by rfl) W.n_isinstance bb_isinstance (pa_cons (pe_ix (ix_U hu1) (pv 0) (pv 2) (fun _ _ => rfl)) (pa_cons (pe_bt rfl W.n_list bb_list) pa_nil))) (by intro _; rfl))) (pw_or1 (pt_not (pt_truth (pe_call (R) (hr.mono (by decide)) rfl W.g__law_tuple_is W.F__law_tuple_is.kp W.b__law_tuple_is .nil pass0 (pa_cons (pe_callTy call_tupleU (by rfl) W.n_tuple bb_tuple (pa_cons (pe_ix (ix_U hu1) (pv 0) (pv 2) (fun _ _ => rfl)) pa_nil)) (pa_cons (pe_callTy call_tupleU (by rfl) W.n_tuple bb_tuple (pa_cons (pe_ix (ix_U hu1) (pv 1) (pv 2) (fun _ _ => rfl)) pa_nil)) pa_nil))) (by intro _; rfl)))))) (pss_one (ps_ret pe_bl)) pss_nil)) pss_nil))))))
      (pss_one (ps_ret pe_bl)))), ?_⟩
  refine z_start (σ := [some _, some _, none]) rfl ?_
  one_sign
  refine z_isi0 (ClsV.ty _) (TyX.base (TyOf.tup ha)) kt_tuple_tuple ?_
  one_sign
  refine iteND (fun h => absurd (by rw [hl]) h) (fun _ => ?_)
  one_sign
  refine z_rng1 ws.length rfl (by omega) ?_
  refine for_range (lo := 0) (n := ws.length) (fun j σ H' => ∃ v : Option V, σ = [some (.ref a), some (.ref b), v] ∧ Fr [] H H') ⟨_, rfl, Fr.rfl'⟩ (fun j σ H2 hj hP => ?_) (fun σ H2 hP => ?_)
  · obtain ⟨v, rfl, f⟩ := hP
    have ha2 := f.g0 ha
    have hb2 := f.g0 hb
    obtain ⟨x, hx⟩ : ∃ x, us[j]? = some x := ⟨_, List.getElem?_eq_getElem (by omega)⟩
    obtain ⟨y, hy⟩ : ∃ y, ws[j]? = some y := ⟨_, List.getElem?_eq_getElem hj⟩
    have hr := hE j x y hx hy
    one_sign
    rcases hr with (⟨n, rfl, rfl⟩ | ⟨z, rfl, rfl, hz⟩) | ⟨p, q, us2, vs2, rfl, rfl, hpq, hl2, hl2', hE2⟩
    · refine z_ixT hb2 (by rw [Int.zero_add]; exact atI_nat hy) ?_
      one_sign
      refine z_ixT ha2 (by rw [Int.zero_add]; exact atI_nat hx) ?_
      one_sign
      refine z_ixT hb2 (by rw [Int.zero_add]; exact atI_nat hy) ?_
      one_sign
      refine ⟨n, n, rfl, ?_⟩
      one_sign
      refine iteND (fun h => absurd rfl h) (fun _ => ?_)
      one_sign
      refine z_ixT hb2 (by rw [Int.zero_add]; exact atI_nat hy) ?_
      one_sign
      refine z_ixT hb2 (by rw [Int.zero_add]; exact atI_nat hy) ?_
      one_sign
      refine z_ixT hb2 (by rw [Int.zero_add]; exact atI_nat hy) ?_
      one_sign
      exact ⟨_, rfl, f⟩
    · refine z_ixT hb2 (by rw [Int.zero_add]; exact atI_nat hy) ?_
      one_sign
      refine z_ixT hb2 (by rw [Int.zero_add]; exact atI_nat hy) ?_
      one_sign
      refine z_ixT ha2 (by rw [Int.zero_add]; exact atI_nat hx) ?_
      one_sign
      refine z_ixT ha2 (by rw [Int.zero_add]; exact atI_nat hx) ?_
      one_sign
      refine z_ixT hb2 (by rw [Int.zero_add]; exact atI_nat hy) ?_
      one_sign
      first | refine iteND (fun h => absurd rfl h) (fun _ => ?_) | skip
      try (one_sign)
      refine z_ixT hb2 (by rw [Int.zero_add]; exact atI_nat hy) ?_
      one_sign
      refine z_ixT hb2 (by rw [Int.zero_add]; exact atI_nat hy) ?_
      one_sign
      exact ⟨_, rfl, f⟩
    rcases hpq with ⟨hp, hq⟩ | ⟨hp, hq⟩
    · have hp2 := f.g0 hp
      have hq2 := f.g0 hq
      refine z_ixT hb2 (by rw [Int.zero_add]; exact atI_nat hy) ?_
      one_sign
      refine z_isi0 (ClsV.ty _) (TyX.base (TyOf.tup hq2)) kt_tuple_int ?_
      one_sign
      refine z_ixT hb2 (by rw [Int.zero_add]; exact atI_nat hy) ?_
      one_sign
      refine z_isi0 (ClsV.ty _) (TyX.base (TyOf.tup hq2)) kt_tuple_str ?_
      one_sign
      refine z_ixT hb2 (by rw [Int.zero_add]; exact atI_nat hy) ?_
      one_sign
      refine z_isi0 (ClsV.ty _) (TyX.base (TyOf.tup hq2)) kt_tuple_tuple ?_
      one_sign
      refine z_ixT ha2 (by rw [Int.zero_add]; exact atI_nat hx) ?_
      one_sign
      refine z_ixT hb2 (by rw [Int.zero_add]; exact atI_nat hy) ?_
      one_sign
      refine ⟨p, q, us2, vs2, rfl, hp2, hq2, hl2, hl2', fun i x y h1 h2 => EI.keep f _ (hE2 i x y h1 h2), fun H3 f3 => ?_⟩
      have f := f.trans f3
      have ha2 := f3.g0 ha2
      have hb2 := f3.g0 hb2
      have hq2 := f3.g0 hq2
      one_sign
      refine z_ixT hb2 (by rw [Int.zero_add]; exact atI_nat hy) ?_
      one_sign
      refine z_isi0 (ClsV.ty _) (TyX.base (TyOf.tup hq2)) kt_tuple_list ?_
      one_sign
      exact ⟨_, rfl, f⟩
    · have hp2 := f.g0 hp
      have hq2 := f.g0 hq
      refine z_ixT hb2 (by rw [Int.zero_add]; exact atI_nat hy) ?_
      one_sign
      refine z_ixT hb2 (by rw [Int.zero_add]; exact atI_nat hy) ?_
      one_sign
      refine z_ixT hb2 (by rw [Int.zero_add]; exact atI_nat hy) ?_
      one_sign
      refine z_ixT hb2 (by rw [Int.zero_add]; exact atI_nat hy) ?_
      one_sign
      refine z_ixT ha2 (by rw [Int.zero_add]; exact atI_nat hx) ?_
      one_sign
      refine z_ixT ha2 (by rw [Int.zero_add]; exact atI_nat hx) ?_
      one_sign
      refine z_tupL hp2 fun p' H3 hp' f3 p3 => ?_
      have f := f.trans f3
      have ha2 := f3.g0 ha2
      have hb2 := f3.g0 hb2
      have hq2 := f3.g0 hq2
      one_sign
      refine z_ixT hb2 (by rw [Int.zero_add]; exact atI_nat hy) ?_
      one_sign
      refine z_tupL hq2 fun q' H4 hq' f4 q4 => ?_
      have f := f.trans f4
      one_sign
      refine ⟨p', q', us2, vs2, rfl, f4.g0 p3, q4, hl2, hl2', fun i x y h1 h2 => EI.keep f _ (hE2 i x y h1 h2), fun H5 f5 => ?_⟩
      one_sign
      exact ⟨_, rfl, f.trans f5⟩
  · obtain ⟨v, rfl, f⟩ := hP
    one_sign
    exact k H2 f
theorem ok_tif (W : WT P K mg base) : FnOk P w K mg base CX0 (2 : Nat) W.f__law_tuple_is W.fd__law_tuple_is ["_law_told", "_law_due_here"] (sp_no) := by
  refine W.F__law_tuple_is.ok sc__law_tuple_is (fun vs H Q E h => h.1) (fun cdv A outer s H vs Q E hr h => h.2.elim)
theorem ok__law_tuple_is (W : WT P K mg base) : FnOk P w K mg base CX0 6 W.f__law_tuple_is W.fd__law_tuple_is ["_law_told", "_law_due_here"] (sp_ti 2) := (ok_ti2 W (ok_ti1 W (ok_ti0 W (ok_tif W)))).mono (by decide)
end

end LX
namespace LX
open PySem PySem.Spec PyProof.Rows L2 NdefX
set_option hygiene false in
local macro_rules | `(tactic| k_memK) => `(tactic| first | exact W.na_Comparison_one | exact W.na_Comparison_other | exact W.na_Comparison_there | exact W.na_Comparison_back | exact W.na_Comparison_first | exact W.na_Store_room | exact W.na_Store_entries | exact W.na_Store_words | exact W.na_Store__places | exact W.na_Store__least | exact W.na_Space_store | exact W.na_Space_pressure | exact W.na_Space_always | exact W.na_Space_allocations | exact W.na_Space_collections | exact W.na_Space__roots | exact W.na_Space__held | exact W.na_Space__saved)
set_option hygiene false in
local macro_rules | `(tactic| k_ownIn) => `(tactic| first | exact W.C_Comparison | exact W.C_Store | exact W.C_Space)
local macro_rules | `(tactic| none_booked) => `(tactic| first | assumption | (refine Fr.g0 (by assumption) ?_; none_booked))
local macro_rules | `(tactic| one_sign) => `(tactic| repeat (first
  | refine Stp.h ?_
  | ((with_reducible refine' z_fld1 ?k0 ?k1 ?k2 ?k3 ?_); (case k0 => none_booked); (case k1 => k_ownIn); (case k2 => k_memK); (case k3 => rfl))
  | ((with_reducible refine' z_meth1 ?k0 ?k1 ?_); (case k0 => none_booked); (case k1 => rfl))
  | ((with_reducible refine' z_bmL ?k0 ?_); (case k0 => none_booked))
  | ((with_reducible refine' z_lenL ?k0 ?_); (case k0 => none_booked))
  | ((with_reducible refine' z_lenT ?k0 ?_); (case k0 => none_booked))
  | ((with_reducible refine' z_lenD ?k0 ?_); (case k0 => none_booked))
  | ((with_reducible refine' z_truL ?k0 ?_); (case k0 => none_booked))
  | ((with_reducible refine' z_truD ?k0 ?_); (case k0 => none_booked))
  | ((with_reducible refine' z_truT ?k0 ?_); (case k0 => none_booked))
  | ((with_reducible refine' z_inDIP ?k0 ?_); (case k0 => none_booked))
  | ((with_reducible refine' z_inDIN ?k0 ?_); (case k0 => none_booked))
  | ((with_reducible refine' z_inDfP ?k0 ?_); (case k0 => none_booked))
  | ((with_reducible refine' z_inDfN ?k0 ?_); (case k0 => none_booked))
  | ((with_reducible refine' z_iList1 ?k0 ?_); (case k0 => none_booked))
  | ((with_reducible refine' z_isi0 ?k0 ?k1 ?k2 ?_); (case k0 => exact (ClsV.ty _)); (case k1 => exact (TyX.base (TyOf.lst (by none_booked)))); (case k2 => first | exact kt_list_int | exact kt_list_bool | exact kt_list_str | exact kt_list_list | exact kt_list_tuple | exact kt_list_dict))
  | ((with_reducible refine' z_rI ?k0 ?_); (case k0 => first | exact (by decide : (0 : Int) < _) | exact ⟨by decide, by decide⟩ | exact ⟨by decide, by decide, by decide⟩ | (show (0 : Int) < _; omega)))
  | ((with_reducible refine' z_mulI ?k0 ?_); (case k0 => first | exact Or.inr ⟨by decide, by decide⟩ | exact Or.inl ⟨by decide, by decide⟩ | exact Or.inl ⟨by omega, by omega⟩ | exact Or.inr ⟨by omega, by omega⟩))))
local macro_rules | `(tactic| leaf_len) => `(tactic| (simp only [wipe, List.map_cons, List.map_nil, List.set_cons_zero, List.set_cons_succ]; one_sign; refine z_ok rfl ?_; one_sign))

theorem idx_first {l : List Int} {n : Int} (h : n ∈ l) : ∃ j : Nat, l[j]? = some n ∧ ∀ (m : Nat) (x : Int), m < j → l[m]? = some x → x ≠ n := by
  induction l with
  | nil => cases h
  | cons a l ih =>
    by_cases e : a = n
    · subst e; exact ⟨0, rfl, fun m x hm => by omega⟩
    · rcases List.mem_cons.mp h with h | h
      · exact absurd h.symm e
      · obtain ⟨j, h1, h2⟩ := ih h
        refine ⟨j + 1, h1, fun m x hm hx => ?_⟩
        cases m with
        | zero => cases hx; exact e
        | succ m => exact h2 m x (by omega) hx
theorem z_idx {K : PySem.W.Frag} {H : Hp} {Q : VK} {la : Addr} {l : List Int} {n : Int} (h1 : H la = some (.lst (l.map V.int))) (h2 : n ∈ l) (k : ∀ j : Nat, Q (.int (j : Int)) H) : rIndex K (.ref la) [.int n] H Q := by
  obtain ⟨j, hj, hf⟩ := idx_first h2
  refine ⟨la, l.map V.int, .int n, j, .int n, rfl, rfl, SqL.of h1, rfl, by simp [flatV], by rw [List.getElem?_map, hj]; rfl, by simp [eqV], fun m z hm hz => ?_, k j⟩
  rw [List.getElem?_map] at hz
  obtain ⟨x, hx, rfl⟩ := Option.map_eq_some_iff.mp hz
  have := hf m x hm hx
  simp [eqV, this]
theorem z_popA {H : Hp} {Q : VK} {la : Addr} {l : List Int} {i : Nat} {y : Int} (h1 : H la = some (.lst (l.map V.int))) (h2 : l[i]? = some y) (hl : l.length ≤ 1000) (k : ∀ H1, Fr [la] H H1 → H1 la = some (.lst ((l.eraseIdx i).map V.int)) → (∀ b, H b = none → H1 b = none) → Q (.int y) H1) : rPopAt (.ref la) [.int (i : Int)] H Q := by
  have hi := (List.getElem?_eq_some_iff.mp h2).1
  refine ⟨la, l.map V.int, i, i, .int y, rfl, rfl, h1, by omega, by omega, ?_, by rw [List.getElem?_map, h2]; rfl, ?_⟩
  · rw [List.length_map]
    exact PySem.seqIndex_of (k := (i : Int)) (by omega) (by omega)
  · exact k _ (Fr.at (by simp)) (by rw [upd_same, List.eraseIdx_eq_take_drop_succ, List.eraseIdx_eq_take_drop_succ, List.map_append, List.map_take, List.map_drop]) (upd_free h1)
section
variable {P : Program} {w : World} {K : PySem.W.Frag} {mg : Str → Option Value} {base : Heap}
/-- the numbers below m, in some order -/
structure Ord (m : Nat) (Os : List Int) : Prop where
  len : Os.length = m
  all : ∀ n : Int, 0 ≤ n → n < m → n ∈ Os
  ok : ∀ n ∈ Os, 0 ≤ n ∧ n < m
def sp_order : Sp := fun vs H Q _ => ∃ (m : Nat) (x : Int), vs = [.int (m : Int), .int x] ∧ m ≤ 59 ∧ ∀ q Os H', H q = none → H' q = some (.lst (Os.map V.int)) → Ord m Os → Fr [] H H' → Q (.ref q) H'
theorem ok__law_order (W : WT P K mg base) : FnOk P w K mg base CX0 2 W.f__law_order W.fd__law_order ["_law_many", "_law_x"] sp_order := by
  refine W.F__law_order.ok sc__law_order (fun vs H Q E h => by obtain ⟨m, x, rfl, hm, k⟩ := h; rfl) (fun cdv A outer s H vs Q E hr h => ?_)
  obtain ⟨m, x, rfl, hm, k⟩ := h
  have hu1 := hu_of hr
  have hu64 := hu64_of hr
  refine ⟨_, (pss_cons (ps_setLc (i := 2) (own := [("_law_k", 3)]) (g := gName 3) (tt := tYes) rfl sc__law_order.nd rfl rfl (sw_true rfl rfl rfl (by decide +kernel)) (pi_range2 (by rfl) W.n_range (pa_cons pe_int (pa_cons (pv 0) pa_nil))) (blkOk_by (N := N__law_order) (sc := defScope s__law_order) (by first | decide +kernel | rfl)) (fun _ _ _ _ _ => (pg_name (i := 3) sc__law_order.nd rfl (by first | exact Or.inl rfl | exact Or.inr rfl))) (fun _ _ _ _ _ => pts_nil) (fun _ _ _ _ _ => (pv 3)))
      (pss_cons (ps_set (i := 4) sc__law_order.nd rfl (by first | exact Or.inl rfl | exact Or.inr rfl) (pe_lst pa_nil))
      (pss_cons (ps_if (pt_cmpR op_gtU (pv 0) pe_int (by first | exact nomark _ | rfl)) (pss_one (ps_expr (pe_bm PySem.F.plainAttrs_list PySem.F.slot_list_append PySem.F.type_list_append mt_append (pv 4) (pa_cons pe_int pa_nil)))) pss_nil)
      (pss_cons (ps_set (i := 5) sc__law_order.nd rfl (by first | exact Or.inl rfl | exact Or.inr rfl) (pv 1))
      (pss_cons (ps_for PassesOwn.never rfl (pi_range2 (by rfl) W.n_range (pa_cons pe_int (pa_cons (pv 0) pa_nil))) (pg_name (i := 3) sc__law_order.nd rfl (by first | exact Or.inl rfl | exact Or.inr rfl)) (pss_cons (ps_set (i := 6) sc__law_order.nd rfl (by first | exact Or.inl rfl | exact Or.inr rfl) (pe_call (ok__law_number W) (hr.mono (by decide)) rfl W.g__law_number W.F__law_number.kp W.b__law_number .nil pass0 (pa_cons (pe_op op_addU (pv 5) (pv 3)) (pa_cons (pe_op op_addU (pv 3) pe_int) pa_nil))))
      (pss_cons (ps_set (i := 5) sc__law_order.nd rfl (by first | exact Or.inl rfl | exact Or.inr rfl) (pe_op op_fdivW (pv 5) pe_int))
      (pss_one (ps_expr (pe_bm PySem.F.plainAttrs_list PySem.F.slot_list_append PySem.F.type_list_append mt_append (pv 4) (pa_cons (pe_bm PySem.F.plainAttrs_list PySem.F.slot_list_pop PySem.F.type_list_pop mt_popAt (pv 2) (pa_cons (pe_op op_mod (pe_callTy call_intU (by rfl) W.n_int bb_int (pa_cons (pv 6) pa_nil)) (pe_callB call_lenU (by rfl) W.n_len bb_len (pa_cons (pv 2) pa_nil))) pa_nil)) pa_nil)))))))
      (pss_one (ps_ret (pv 4)))))))), ?_⟩
  refine z_start (σ := [some _, some _, none, none, none, none, none]) rfl ?_
  one_sign
  refine z_rng2 (m - 1) (by omega) (by omega) ?_
  refine z_lcR (fun i xs H' => xs = (List.range i).map fun z : Nat => V.int ((z : Int) + 1)) (fun _ _ _ _ => rfl) (fun Rr i xs H1 hRr hi hxl hP hX f1 => ?_) (fun la xs H1 hla hP hxl hX f1 => ?_)
  · leaf_len
    refine z_lcY hRr hX f1 hxl (by rw [sizeLine_eq]; omega) fun H2 f2 _ _ => ?_
    show _ = _
    rw [hP, List.range_succ, List.map_append]
    show _ = _ ++ [V.int ((i : Int) + 1)]
    rw [Int.add_comm]
  subst hP
  have hX : H1 la = some (.lst (((List.range (m - 1)).map fun z : Nat => (z : Int) + 1).map V.int)) := by rw [hX, List.map_map]; rfl
  one_sign
  refine z_newL (by show 0 ≤ sizeLine; decide) fun oa H2 hoa f2 o2 => ?_
  have nlo : la ≠ oa := ne_of_none hX hoa
  have hoa0 : H oa = none := f1.none hoa
  one_sign
  have hm2 : (m : Int) ≤ 59 := by omega
  refine iteD (fun hm0 => ?_) (fun hm0 => ?_)
  · have hm0 : 0 < (m : Int) := hm0
    one_sign
    refine z_append o2 (by show 0 < sizeLine; rw [sizeLine_eq]; omega) fun H3 f3 o3 n3 => ?_
    have o3 : H3 oa = some (.lst ([(0 : Int)].map V.int)) := o3
    have l3 := f3.g (f2.g0 hX) (nin nlo)
    have f03 : Fr [] H H3 := (f1.trans f2).in f3 hoa0
    one_sign
    refine z_rng2 (m - 1) (by omega) (by omega) ?_
    refine for_range (lo := 1) (n := m - 1) (fun i σ H' => ∃ (L Os : List Int) (v3 v6 : Option V) (z : Int), σ = [some (.int m), some (.int x), some (.ref la), v3, some (.ref oa), some (.int z), v6] ∧ H' la = some (.lst (L.map V.int)) ∧ H' oa = some (.lst (Os.map V.int)) ∧ Os.length = i + 1 ∧ L.length = m - 1 - i ∧ (∀ n : Int, 0 ≤ n → n < m → n ∈ L ∨ n ∈ Os) ∧ (∀ n ∈ L, 0 ≤ n ∧ n < m) ∧ (∀ n ∈ Os, 0 ≤ n ∧ n < m) ∧ Fr [] H H')
      ⟨_, [0], _, _, x, rfl, l3, o3, rfl, by rw [List.length_map, List.length_range]; omega, fun n h0 h1 => ?_, fun n hn => ?_, fun n hn => by rw [List.mem_singleton] at hn; omega, f03⟩ (fun i σ H4 hi hI => ?_) (fun σ H4 hI => ?_)
    · by_cases hn : n = 0
      · exact .inr (by rw [hn]; exact List.mem_singleton.mpr rfl)
      · refine .inl (List.mem_map.mpr ⟨(n - 1).toNat, List.mem_range.mpr (by omega), by omega⟩)
    · obtain ⟨z, hz, rfl⟩ := List.mem_map.mp hn
      have := List.mem_range.mp hz
      omega
    · obtain ⟨L, Os, v3, v6, z, rfl, l4, o4, hO, hL, hall, hokL, hokO, f4⟩ := hI
      one_sign
      refine ⟨_, _, rfl, by omega, by omega, fun r hr0 => ?_⟩
      one_sign
      have hLp : 0 < L.length := by omega
      have e1 := Int.emod_nonneg r (by omega : (L.length : Int) ≠ 0)
      have e2 := Int.emod_lt_of_pos r (by omega : (0 : Int) < L.length)
      refine z_rI (by show (0 : Int) < ((L.map V.int).length : Nat); rw [List.length_map]; omega) ?_
      rw [List.length_map]
      obtain ⟨y, hy⟩ : ∃ y, L[(r % (L.length : Int)).toNat]? = some y := ⟨_, List.getElem?_eq_getElem (by omega)⟩
      generalize hjj : (r % (L.length : Int)).toNat = jj at hy
      rw [show r % (L.length : Int) = (jj : Int) by omega]
      have hjl := (List.getElem?_eq_some_iff.mp hy).1
      one_sign
      refine z_popA l4 hy (by omega) fun H5 f5 l5 n5 => ?_
      have o5 := f5.g o4 (nin nlo.symm)
      have f05 : Fr [] H H5 := f4.in f5 hla
      one_sign
      refine z_append o5 (by rw [List.length_map, sizeLine_eq]; omega) fun H6 f6 o6 n6 => ?_
      have o6 : H6 oa = some (.lst ((Os ++ [y]).map V.int)) := by rw [o6, List.map_append]; rfl
      have sub : ∀ n ∈ L.eraseIdx jj, n ∈ L := fun n hn => List.mem_of_mem_eraseIdx hn
      have hel : (L.eraseIdx jj).length = L.length - 1 := by rw [List.length_eraseIdx]; exact if_pos hjl
      refine ⟨L.eraseIdx jj, Os ++ [y], _, _, _, rfl, f6.g l5 (nin nlo), o6, by rw [List.length_append, hO]; rfl, by rw [hel]; omega, fun n h0 h1 => ?_, fun n hn => hokL n (sub n hn), fun n hn => ?_, f05.in f6 hoa0⟩
      · rcases hall n h0 h1 with h | h
        · by_cases hny : n = y
          · exact .inr (List.mem_append_right _ (by rw [hny]; exact List.mem_singleton.mpr rfl))
          · refine .inl ?_
            obtain ⟨i2, hi2⟩ := List.mem_iff_getElem?.mp h
            have hne : i2 ≠ jj := fun z => by rw [z, hy] at hi2; cases hi2; exact hny rfl
            rcases Nat.lt_or_ge i2 jj with hlt | hge
            · exact List.mem_iff_getElem?.mpr ⟨i2, by rw [List.getElem?_eraseIdx, if_pos hlt]; exact hi2⟩
            · exact List.mem_iff_getElem?.mpr ⟨i2 - 1, by rw [List.getElem?_eraseIdx, if_neg (by omega), show i2 - 1 + 1 = i2 by omega]; exact hi2⟩
        · exact .inr (List.mem_append_left _ h)
      · rcases List.mem_append.mp hn with h | h
        · exact hokO n h
        · rw [List.mem_singleton.mp h]
          exact hokL y (List.mem_of_getElem? hy)
    · obtain ⟨L, Os, v3, v6, z, rfl, l4, o4, hO, hL, hall, hokL, hokO, f4⟩ := hI
      have hLn : L = [] := List.eq_nil_of_length_eq_zero (by omega)
      subst hLn
      one_sign
      exact k oa Os H4 hoa0 o4 ⟨by omega, fun n h0 h1 => (hall n h0 h1).elim (fun z => by cases z) id, hokO⟩ f4
  · have hm0 : ¬ 0 < (m : Int) := hm0
    obtain rfl : m = 0 := by omega
    one_sign
    refine z_rng2 0 (by omega) (by omega) ?_
    refine for_range (lo := 1) (n := 0) (fun i σ H' => ∃ v3 v5 v6, σ = [some (.int ((0 : Nat) : Int)), some (.int x), some (.ref la), v3, some (.ref oa), v5, v6] ∧ H' = H2) ⟨_, _, _, rfl, rfl⟩ (fun i σ H4 hi hI => absurd hi (Nat.not_lt_zero _)) (fun σ H4 hI => ?_)
    obtain ⟨v3, v5, v6, rfl, rfl⟩ := hI
    one_sign
    exact k oa [] H4 hoa0 o2 ⟨rfl, fun n h0 h1 => by omega, fun n hn => by cases hn⟩ (f1.trans f2)
def sp_turned : Sp := fun vs H Q _ => ∃ (x : Int) (oa : Addr) (m : Nat) (Os : List Int), vs = [.int x, .ref oa, .int (m : Int)] ∧ Evn x ∧ H oa = some (.lst (Os.map V.int)) ∧ Ord m Os ∧ m ≤ 59 ∧ ∀ r : Int, Evn r → Q (.int r) H
theorem ok__law_turned (W : WT P K mg base) : FnOk P w K mg base CX0 1 W.f__law_turned W.fd__law_turned ["_law_word_here", "_law_order_here", "_law_many"] sp_turned := by
  refine W.F__law_turned.ok sc__law_turned (fun vs H Q E h => by obtain ⟨x, oa, m, Os, rfl, hx, hoa, O, hm, k⟩ := h; rfl) (fun cdv A outer s H vs Q E hr h => ?_)
  obtain ⟨x, oa, m, Os, rfl, hx, hoa, O, hm, k⟩ := h
  have hu1 := hu_of hr
  have hu64 := hu64_of hr
  refine ⟨_, (pss_cons (ps_if (PW.pt (pw_and (pt_cmpR (op_eqU hu64) (pe_op op_mod (pe_callTy call_intU (by rfl) W.n_int bb_int (pa_cons (pv 0) pa_nil)) pe_int) pe_int (by first | exact nomark _ | rfl)) (pw_and1 (pt_cmpR op_ltU (pe_op op_fdivW (pv 0) pe_int) (pv 2) (by first | exact nomark _ | rfl))))) (pss_one (ps_ret (pe_op op_mulU pe_int (pe_bm PySem.F.plainAttrs_list PySem.F.slot_list_index PySem.F.type_list_index mt_index (pv 1) (pa_cons (pe_op op_fdivW (pv 0) pe_int) pa_nil))))) pss_nil)
      (pss_one (ps_ret (pv 0)))), ?_⟩
  refine z_start (σ := [some _, some _, some _]) rfl ?_
  one_sign
  have small : ∀ b : Bool, True := fun _ => trivial
  refine iteD (fun h => ?_) (fun h => ?_)
  · have h : x % 2 = 0 := h
    one_sign
    have h0 := hx h
    refine iteD (fun h2 => ?_) (fun h2 => ?_)
    · have h2 : x / 2 < (m : Int) := h2
      one_sign
      refine z_idx hoa (O.all (x / 2) (by omega) h2) fun j => ?_
      one_sign
      refine k _ fun _ => ?_
      show 0 ≤ 2 * (j : Int)
      omega
    · one_sign
      exact k x hx
  · refine iteF ?_
    one_sign
    exact k x hx
end

end LX
namespace LX
open PySem PySem.Spec PyProof.Rows L2 NdefX
set_option hygiene false in
local macro_rules | `(tactic| k_memK) => `(tactic| first | exact W.na_Comparison_one | exact W.na_Comparison_other | exact W.na_Comparison_there | exact W.na_Comparison_back | exact W.na_Comparison_first | exact W.na_Store_room | exact W.na_Store_entries | exact W.na_Store_words | exact W.na_Store__places | exact W.na_Store__least | exact W.na_Space_store | exact W.na_Space_pressure | exact W.na_Space_always | exact W.na_Space_allocations | exact W.na_Space_collections | exact W.na_Space__roots | exact W.na_Space__held | exact W.na_Space__saved)
set_option hygiene false in
local macro_rules | `(tactic| k_ownIn) => `(tactic| first | exact W.C_Comparison | exact W.C_Store | exact W.C_Space)
local macro_rules | `(tactic| none_booked) => `(tactic| first | assumption | (refine Fr.g0 (by assumption) ?_; none_booked))
local macro_rules | `(tactic| one_sign) => `(tactic| repeat (first
  | refine Stp.h ?_
  | ((with_reducible refine' z_fld1 ?k0 ?k1 ?k2 ?k3 ?_); (case k0 => none_booked); (case k1 => k_ownIn); (case k2 => k_memK); (case k3 => rfl))
  | ((with_reducible refine' z_meth1 ?k0 ?k1 ?_); (case k0 => none_booked); (case k1 => rfl))
  | ((with_reducible refine' z_bmL ?k0 ?_); (case k0 => none_booked))
  | ((with_reducible refine' z_lenL ?k0 ?_); (case k0 => none_booked))
  | ((with_reducible refine' z_lenT ?k0 ?_); (case k0 => none_booked))
  | ((with_reducible refine' z_lenD ?k0 ?_); (case k0 => none_booked))
  | ((with_reducible refine' z_truL ?k0 ?_); (case k0 => none_booked))
  | ((with_reducible refine' z_truD ?k0 ?_); (case k0 => none_booked))
  | ((with_reducible refine' z_truT ?k0 ?_); (case k0 => none_booked))
  | ((with_reducible refine' z_inDIP ?k0 ?_); (case k0 => none_booked))
  | ((with_reducible refine' z_inDIN ?k0 ?_); (case k0 => none_booked))
  | ((with_reducible refine' z_inDfP ?k0 ?_); (case k0 => none_booked))
  | ((with_reducible refine' z_inDfN ?k0 ?_); (case k0 => none_booked))
  | ((with_reducible refine' z_iList1 ?k0 ?_); (case k0 => none_booked))
  | ((with_reducible refine' z_isi0 ?k0 ?k1 ?k2 ?_); (case k0 => exact (ClsV.ty _)); (case k1 => exact (TyX.base (TyOf.lst (by none_booked)))); (case k2 => first | exact kt_list_int | exact kt_list_bool | exact kt_list_str | exact kt_list_list | exact kt_list_tuple | exact kt_list_dict))
  | ((with_reducible refine' z_rI ?k0 ?_); (case k0 => first | exact (by decide : (0 : Int) < _) | exact ⟨by decide, by decide⟩ | exact ⟨by decide, by decide, by decide⟩ | (show (0 : Int) < _; omega)))
  | ((with_reducible refine' z_mulI ?k0 ?_); (case k0 => first | exact Or.inr ⟨by decide, by decide⟩ | exact Or.inl ⟨by decide, by decide⟩ | exact Or.inl ⟨by omega, by omega⟩ | exact Or.inr ⟨by omega, by omega⟩))))
local macro_rules | `(tactic| leaf_len) => `(tactic| (simp only [wipe, List.map_cons, List.map_nil, List.set_cons_zero, List.set_cons_succ]; one_sign; refine z_ok rfl ?_; one_sign))

theorem pi_listK {X : Cx} {K : PySem.W.Frag} {tg l : Expr} {tl : TE} (e : X.K = K) (hl : PE X l tl) : PI X tg l (iList K tl) := by subst e; exact pi_list hl
/-- rows and words that may be changed: new since H0, apart -/
structure Tw (H0 H : Hp) (ra wa : Addr) (A : List Addr) (R : List (List Int)) (ws : List Int) (b : Nat) : Prop where
  hra : H ra = some (.lst (A.map V.ref))
  rows : RwL H A R
  hwa : H wa = some (.lst (ws.map V.int))
  eR : ∀ r ∈ R, ∀ x ∈ r, Evn x
  eW : ∀ x ∈ ws, Evn x
  lR : R.length ≤ 59
  lr : ∀ r ∈ R, 1 ≤ r.length ∧ r.length ≤ 20 + b
  lw : 16 ≤ ws.length ∧ ws.length ≤ 20 + b
  nd : A.Nodup
  fa : ∀ a ∈ A, H0 a = none
  fw : H0 wa = none
  nw : wa ∉ A
theorem Tw.keep {H0 H H' : Hp} {ra wa : Addr} {A : List Addr} {R : List (List Int)} {ws : List Int} {b : Nat} (h : Tw H0 H ra wa A R ws b) (f : Fr [] H H') : Tw H0 H' ra wa A R ws b := ⟨f.g0 h.hra, h.rows.mono f, f.g0 h.hwa, h.eR, h.eW, h.lR, h.lr, h.lw, h.nd, h.fa, h.fw, h.nw⟩
theorem Tw.lr' {H0 H : Hp} {ra wa : Addr} {A : List Addr} {R : List (List Int)} {ws : List Int} {b : Nat} (h : Tw H0 H ra wa A R ws b) (hb : b ≤ 4) : LR H ra wa A R ws := ⟨h.hra, h.rows, h.hwa, h.eR, h.eW, h.lR, fun r hr => ⟨(h.lr r hr).1, by have := (h.lr r hr).2; omega⟩, ⟨h.lw.1, by have := h.lw.2; omega⟩⟩
/-- lists made in a comprehension, new since H1 -/
structure Mk (H1 H : Hp) (i : Nat) (xs : List V) (A : List Addr) (R : List (List Int)) : Prop where
  e : xs = A.map V.ref
  la : A.length = i
  rows : RwL H A R
  eR : ∀ r ∈ R, ∀ x ∈ r, Evn x
  lr : ∀ r ∈ R, 1 ≤ r.length ∧ r.length ≤ 20
  nd : A.Nodup
  fa : ∀ a ∈ A, H1 a = none
theorem Mk.nil (H1 H : Hp) : Mk H1 H 0 [] [] [] := ⟨rfl, rfl, ⟨rfl, fun i a r e => (by cases e)⟩, fun r h => (by cases h), fun r h => (by cases h), List.nodup_nil, fun a h => (by cases h)⟩
theorem Mk.live {H1 H : Hp} {i : Nat} {xs : List V} {A : List Addr} {R : List (List Int)} (h : Mk H1 H i xs A R) {a : Addr} (ha : a ∈ A) : ∃ r : List Int, H a = some (.lst (r.map V.int)) := by
  obtain ⟨j, hj⟩ := List.mem_iff_getElem?.mp ha
  have hjl := (List.getElem?_eq_some_iff.mp hj).1
  obtain ⟨r, hr⟩ : ∃ r, R[j]? = some r := ⟨_, List.getElem?_eq_getElem (by rw [← h.rows.len]; exact hjl)⟩
  exact ⟨r, h.rows.it j a r hj hr⟩
theorem Mk.snoc {H1 H H' : Hp} {i : Nat} {xs : List V} {A : List Addr} {R : List (List Int)} (h : Mk H1 H i xs A R) (L : Addr) (hL : ∀ a ∈ A, a ≠ L) (f : Fr [L] H H') {a : Addr} {r : List Int} (h0 : H1 a = none) (ha : H' a = some (.lst (r.map V.int))) (hn : H a = none) (er : ∀ x ∈ r, Evn x) (lr : 1 ≤ r.length ∧ r.length ≤ 20) : Mk H1 H' (i + 1) (xs ++ [V.ref a]) (A ++ [a]) (R ++ [r]) := by
  refine ⟨by rw [h.e, List.map_append]; rfl, by rw [List.length_append, h.la]; rfl, (h.rows.keep f fun b hb => nin (hL b hb)).snoc ha, fun q hq => ?_, fun q hq => ?_, nodup_snoc.mpr ⟨h.nd, fun z => ?_⟩, fun b hb => ?_⟩
  · rcases List.mem_append.mp hq with hq | hq
    · exact h.eR q hq
    · rw [List.mem_singleton.mp hq]; exact er
  · rcases List.mem_append.mp hq with hq | hq
    · exact h.lr q hq
    · rw [List.mem_singleton.mp hq]; exact lr
  · obtain ⟨r', hr'⟩ := h.live z
    rw [hn] at hr'; cases hr'
  · rcases List.mem_append.mp hb with hb | hb
    · exact h.fa b hb
    · rw [List.mem_singleton.mp hb]; exact h0
theorem rf_ne {A : List Addr} {r : List Int} {b : Addr} (h : b ∈ A) (e : A.map V.ref = r.map V.int) : False := by
  cases A with
  | nil => cases h
  | cons a A => cases r with
    | nil => cases e
    | cons x r => cases (List.cons.inj e).1
section
variable {P : Program} {w : World} {K : PySem.W.Frag} {mg : Str → Option Value} {base : Heap}
/-- rows and words to begin with -/
structure Rw0 (H : Hp) (ra wa : Addr) (A : List Addr) (R : List (List Int)) (ws : List Int) : Prop where
  ra : H ra = some (.lst (A.map V.ref))
  rows : RwL H A R
  wa : H wa = some (.lst (ws.map V.int))
  eR : ∀ r ∈ R, ∀ x ∈ r, Evn x
  eW : ∀ x ∈ ws, Evn x
  lR : R.length ≤ 59
  lr : ∀ r ∈ R, 1 ≤ r.length ∧ r.length ≤ 20
  lw : 16 ≤ ws.length ∧ ws.length ≤ 20
theorem Rw0.keep {H H' : Hp} {ra wa : Addr} {A : List Addr} {R : List (List Int)} {ws : List Int} (h : Rw0 H ra wa A R ws) (f : Fr [] H H') : Rw0 H' ra wa A R ws := ⟨f.g0 h.ra, h.rows.mono f, f.g0 h.wa, h.eR, h.eW, h.lR, h.lr, h.lw⟩
def sp_twin : Sp := fun vs H Q _ => ∃ ra wa oa A R ws Os, vs = [.ref ra, .ref wa, .ref oa] ∧ Rw0 H ra wa A R ws ∧ H oa = some (.lst (Os.map V.int)) ∧ Ord R.length Os ∧
  ∀ t ra2 wa2 A2 R2 ws2 H', H' t = some (.tup [.ref ra2, .ref wa2]) → Tw H H' ra2 wa2 A2 R2 ws2 0 → R2.length = R.length → Fr [] H H' → Q (.ref t) H'
theorem ok__law_twin (W : WT P K mg base) : FnOk P w K mg base CX0 2 W.f__law_twin W.fd__law_twin ["_law_rows_here", "_law_words", "_law_order_here"] sp_twin := by
  refine W.F__law_twin.ok sc__law_twin (fun vs H Q E h => by obtain ⟨ra, wa, oa, A, R, ws, Os, rfl, L, hoa, O, k⟩ := h; rfl) (fun cdv A outer s H vs Q E hr h => ?_)
  obtain ⟨ra, wa, oa, A, R, ws, Os, rfl, L, hoa, O, k⟩ := h
  have hu1 := hu_of hr
  have hu64 := hu64_of hr
  refine ⟨_, (pss_cons (ps_set (i := 3) sc__law_twin.nd rfl (by first | exact Or.inl rfl | exact Or.inr rfl) (pe_callB call_lenU (by rfl) W.n_len bb_len (pa_cons (pv 0) pa_nil)))
      (pss_cons (ps_setLc (i := 4) (own := [("_law_number_here", 5)]) (g := gName 5) (tt := tYes) rfl sc__law_twin.nd rfl rfl (sw_true rfl rfl rfl (by decide +kernel)) (pi_list (pv 2)) (blkOk_by (N := N__law_twin) (sc := defScope s__law_twin) (by first | decide +kernel | rfl)) (fun _ _ _ _ _ => (pg_name (i := 5) sc__law_twin.nd rfl (by first | exact Or.inl rfl | exact Or.inr rfl))) (fun _ _ _ _ _ => pts_nil) (fun _ _ _ _ _ => (pe_lc (own := [("_law_word_here", 6)]) (g := gName 6) (tt := tYes) rfl sc__law_twin.nd (pi_listK (K := K) rfl (pe_ix (ix_UK (K := K) rfl (by exact hu1)) (pv 0) (pv 5) (fun _ _ => rfl))) (blkOk_by (N := N__law_twin) (sc := _) (by first | decide +kernel | rfl)) (fun _ _ _ _ _ => (pg_name (i := 6) sc__law_twin.nd rfl (by first | exact Or.inl rfl | exact Or.inr rfl))) (fun _ _ _ _ _ => pts_nil) (fun _ _ _ _ _ => (pe_call (ok__law_turned W) (hr.mono (by decide)) rfl W.g__law_turned W.F__law_turned.kp W.b__law_turned .nil pass0 (pa_cons (pv 6) (pa_cons (pv 2) (pa_cons (pv 3) pa_nil))))))))
      (pss_one (ps_ret (pe_tup (pa_cons (pv 4) (pa_cons (pe_lc (own := [("_law_word_here", 6)]) (g := gName 6) (tt := tYes) rfl sc__law_twin.nd (pi_list (pv 1)) (blkOk_by (N := N__law_twin) (sc := defScope s__law_twin) (by first | decide +kernel | rfl)) (fun _ _ _ _ _ => (pg_name (i := 6) sc__law_twin.nd rfl (by first | exact Or.inl rfl | exact Or.inr rfl))) (fun _ _ _ _ _ => pts_nil) (fun _ _ _ _ _ => (pe_call (ok__law_turned W) (hr.mono (by decide)) rfl W.g__law_turned W.F__law_turned.kp W.b__law_turned .nil pass0 (pa_cons (pv 6) (pa_cons (pv 2) (pa_cons (pv 3) pa_nil)))))) pa_nil))))))), ?_⟩
  refine z_start (σ := [some _, some _, some _, none, none, none, none]) rfl ?_
  one_sign
  have hra := L.ra
  have hlA := L.rows.len
  have hlR := L.lR
  refine z_lenL hra ?_
  one_sign
  rw [List.length_map, hlA]
  refine z_lcL hoa (fun i xs H' => ∃ A' R', Mk H H' i xs A' R') (fun _ _ _ _ => ⟨[], [], Mk.nil _ _⟩) (fun Rr i x xs H1 hRr hx hil hxl hP hX f1 => ?_) (fun q xs H1 hq hP hxl hX f1 => ?_)
  · obtain ⟨A', R', M⟩ := hP
    rw [List.getElem?_map] at hx
    obtain ⟨n, hn, rfl⟩ := Option.map_eq_some_iff.mp hx
    obtain ⟨n0, n1⟩ := O.ok n (List.mem_of_getElem? hn)
    obtain ⟨a, ha⟩ : ∃ a, A[n.toNat]? = some a := ⟨_, List.getElem?_eq_getElem (by omega)⟩
    have hrow := row_of n0 n1
    have hr1 := f1.g0 (L.rows.it _ _ _ ha hrow)
    leaf_len
    refine z_ixL (f1.g0 hra) (by rw [show n = (n.toNat : Int) by omega]; exact atI_nat (ref_at ha)) ?_
    one_sign
    have hrl := L.lr _ (List.mem_of_getElem? hrow)
    have her := L.eR _ (List.mem_of_getElem? hrow)
    refine z_lcL hr1 (fun i xs H' => ∃ rs : List Int, xs = rs.map V.int ∧ rs.length = i ∧ ∀ x ∈ rs, Evn x) (fun _ _ _ _ => ⟨[], rfl, rfl, fun x h => (by cases h)⟩) (fun R2 i2 x2 xs2 H2 hR2 hx2 hi2 hxl2 hP2 hX2 f2 => ?_) (fun q2 xs2 H2 hq2 hP2 hxl2 hX2 f2 => ?_)
    · obtain ⟨rs, rfl, hrs, hE⟩ := hP2
      rw [List.getElem?_map] at hx2
      obtain ⟨v, hv, rfl⟩ := Option.map_eq_some_iff.mp hx2
      leaf_len
      refine ⟨v, oa, R.length, Os, rfl, her v (List.mem_of_getElem? hv), f2.g0 (f1.g0 hoa), O, hlR, fun r hr => ?_⟩
      refine z_lcY hR2 hX2 f2 hxl2 (by rw [List.length_map] at hi2; rw [sizeLine_eq]; omega) fun H3 _ _ _ => ?_
      refine ⟨rs ++ [r], by rw [List.map_append]; rfl, by rw [List.length_append, hrs]; rfl, fun x hx => ?_⟩
      rcases List.mem_append.mp hx with h | h
      · exact hE x h
      · rw [List.mem_singleton.mp h]; exact hr
    · obtain ⟨rs, rfl, hrs, hE⟩ := hP2
      rw [List.length_map] at hrs
      have f12 := f1.trans f2
      refine z_lcY hRr (f2.g0 hX) f12 hxl (by rw [List.length_map, O.len] at hil; rw [sizeLine_eq]; omega) fun H3 f3 f03 n3 => ?_
      have nq : q2 ≠ Rr := fun z => by rw [z, hX] at hq2; cases hq2
      refine ⟨A' ++ [q2], R' ++ [rs], M.snoc Rr (fun b hb z => ?_) (fun b o e n => f3 b o (f2.g0 e) n) (f1.none hq2) (f3.g hX2 (nin nq)) hq2 hE ⟨by omega, by omega⟩⟩
      rw [z] at hb
      obtain ⟨r', hr'⟩ := M.live hb
      rw [hX, M.e] at hr'
      exact rf_ne hb (HO.lst.inj (Option.some.inj hr'))
  · obtain ⟨A', R', M⟩ := hP
    rw [List.length_map, O.len] at M
    have hM := M.rows.len
    have hMl := M.la
    have hwa1 := f1.g0 L.wa
    one_sign
    refine z_lcL (f1.g0 L.wa) (fun i xs H' => ∃ rs : List Int, xs = rs.map V.int ∧ rs.length = i ∧ ∀ x ∈ rs, Evn x) (fun _ _ _ _ => ⟨[], rfl, rfl, fun x h => (by cases h)⟩) (fun R2 i2 x2 xs2 H2 hR2 hx2 hi2 hxl2 hP2 hX2 f2 => ?_) (fun q2 xs2 H2 hq2 hP2 hxl2 hX2 f2 => ?_)
    · obtain ⟨rs, rfl, hrs, hE⟩ := hP2
      rw [List.getElem?_map] at hx2
      obtain ⟨v, hv, rfl⟩ := Option.map_eq_some_iff.mp hx2
      leaf_len
      refine ⟨v, oa, R.length, Os, rfl, L.eW v (List.mem_of_getElem? hv), f2.g0 (f1.g0 hoa), O, hlR, fun r hr => ?_⟩
      refine z_lcY hR2 hX2 f2 hxl2 (by have := L.lw; rw [List.length_map] at hi2; rw [sizeLine_eq]; omega) fun H3 _ _ _ => ?_
      refine ⟨rs ++ [r], by rw [List.map_append]; rfl, by rw [List.length_append, hrs]; rfl, fun x hx => ?_⟩
      rcases List.mem_append.mp hx with h | h
      · exact hE x h
      · rw [List.mem_singleton.mp h]; exact hr
    · obtain ⟨rs, rfl, hrs, hE⟩ := hP2
      rw [List.length_map] at hrs
      have f12 := f1.trans f2
      one_sign
      refine z_newL (by show 2 ≤ sizeLine; decide) fun t H3 ht f3 t3 => ?_
      have lw := L.lw
      refine k t q q2 A' R' rs H3 t3 ⟨f3.g0 (f2.g0 (by rw [hX, M.e])), M.rows.mono (f2.trans f3), f3.g0 hX2, M.eR, hE, by omega, fun r hr => by have := M.lr r hr; omega, by omega, M.nd, M.fa, f1.none hq2, fun z => ?_⟩ (by omega) (f12.trans f3)
      obtain ⟨r', hr'⟩ := M.live z
      rw [hq2] at hr'
      cases hr'
end

end LX
namespace LX
open PySem PySem.Spec PyProof.Rows L2 NdefX
set_option hygiene false in
local macro_rules | `(tactic| k_memK) => `(tactic| first | exact W.na_Comparison_one | exact W.na_Comparison_other | exact W.na_Comparison_there | exact W.na_Comparison_back | exact W.na_Comparison_first | exact W.na_Store_room | exact W.na_Store_entries | exact W.na_Store_words | exact W.na_Store__places | exact W.na_Store__least | exact W.na_Space_store | exact W.na_Space_pressure | exact W.na_Space_always | exact W.na_Space_allocations | exact W.na_Space_collections | exact W.na_Space__roots | exact W.na_Space__held | exact W.na_Space__saved)
set_option hygiene false in
local macro_rules | `(tactic| k_ownIn) => `(tactic| first | exact W.C_Comparison | exact W.C_Store | exact W.C_Space)
local macro_rules | `(tactic| none_booked) => `(tactic| first | assumption | (refine Fr.g0 (by assumption) ?_; none_booked))
local macro_rules | `(tactic| one_sign) => `(tactic| repeat (first
  | refine Stp.h ?_
  | ((with_reducible refine' z_fld1 ?k0 ?k1 ?k2 ?k3 ?_); (case k0 => none_booked); (case k1 => k_ownIn); (case k2 => k_memK); (case k3 => rfl))
  | ((with_reducible refine' z_meth1 ?k0 ?k1 ?_); (case k0 => none_booked); (case k1 => rfl))
  | ((with_reducible refine' z_bmL ?k0 ?_); (case k0 => none_booked))
  | ((with_reducible refine' z_lenL ?k0 ?_); (case k0 => none_booked))
  | ((with_reducible refine' z_lenT ?k0 ?_); (case k0 => none_booked))
  | ((with_reducible refine' z_lenD ?k0 ?_); (case k0 => none_booked))
  | ((with_reducible refine' z_truL ?k0 ?_); (case k0 => none_booked))
  | ((with_reducible refine' z_truD ?k0 ?_); (case k0 => none_booked))
  | ((with_reducible refine' z_truT ?k0 ?_); (case k0 => none_booked))
  | ((with_reducible refine' z_inDIP ?k0 ?_); (case k0 => none_booked))
  | ((with_reducible refine' z_inDIN ?k0 ?_); (case k0 => none_booked))
  | ((with_reducible refine' z_inDfP ?k0 ?_); (case k0 => none_booked))
  | ((with_reducible refine' z_inDfN ?k0 ?_); (case k0 => none_booked))
  | ((with_reducible refine' z_iList1 ?k0 ?_); (case k0 => none_booked))
  | ((with_reducible refine' z_isi0 ?k0 ?k1 ?k2 ?_); (case k0 => exact (ClsV.ty _)); (case k1 => exact (TyX.base (TyOf.lst (by none_booked)))); (case k2 => first | exact kt_list_int | exact kt_list_bool | exact kt_list_str | exact kt_list_list | exact kt_list_tuple | exact kt_list_dict))
  | ((with_reducible refine' z_rI ?k0 ?_); (case k0 => first | exact (by decide : (0 : Int) < _) | exact ⟨by decide, by decide⟩ | exact ⟨by decide, by decide, by decide⟩ | (show (0 : Int) < _; omega)))
  | ((with_reducible refine' z_mulI ?k0 ?_); (case k0 => first | exact Or.inr ⟨by decide, by decide⟩ | exact Or.inl ⟨by decide, by decide⟩ | exact Or.inl ⟨by omega, by omega⟩ | exact Or.inr ⟨by omega, by omega⟩))))
local macro_rules | `(tactic| leaf_len) => `(tactic| (simp only [wipe, List.map_cons, List.map_nil, List.set_cons_zero, List.set_cons_succ]; one_sign; refine z_ok rfl ?_; one_sign))
theorem nodup_idx {A : List Addr} {a : Addr} (nd : A.Nodup) {i j : Nat} (hi : A[i]? = some a) (hj : A[j]? = some a) : i = j := by
  induction A generalizing i j with
  | nil => cases hi
  | cons b A ih =>
    obtain ⟨h1, h2⟩ := List.nodup_cons.mp nd
    cases i with
    | zero => cases j with
      | zero => rfl
      | succ j =>
        have hi : some b = some a := hi
        cases hi
        have hj : A[j]? = some a := hj
        exact absurd (List.mem_of_getElem? hj) h1
    | succ i => cases j with
      | zero =>
        have hj : some b = some a := hj
        cases hj
        have hi : A[i]? = some a := hi
        exact absurd (List.mem_of_getElem? hi) h1
      | succ j => rw [ih h2 hi hj]
theorem rf_ne2 {A : List Addr} {r : List Int} (h : 1 ≤ r.length) (e : A.map V.ref = r.map V.int) : False := by
  cases r with
  | nil => simp at h
  | cons x r => cases A with
    | nil => cases e
    | cons a A => cases (List.cons.inj e).1
theorem Tw.words {H0 H H' : Hp} {ra wa : Addr} {A : List Addr} {R : List (List Int)} {ws ws' : List Int} {b : Nat} (T : Tw H0 H ra wa A R ws b) (f : Fr [wa] H H') (h : H' wa = some (.lst (ws'.map V.int))) (e : ∀ x ∈ ws', Evn x) (l : 16 ≤ ws'.length ∧ ws'.length ≤ 20 + (b + 1)) : Tw H0 H' ra wa A R ws' (b + 1) := by
  have n : ra ≠ wa := ne_of T.hra T.hwa (fun z => rf_ne2 (by have := T.lw; omega) (HO.lst.inj z))
  exact ⟨f.g T.hra (nin n), T.rows.keep f fun a ha => nin (fun z => T.nw (z ▸ ha)), h, T.eR, e, T.lR, fun r hr => by have := T.lr r hr; omega, l, T.nd, T.fa, T.fw, T.nw⟩
theorem Tw.rowset {H0 H H' : Hp} {ra wa : Addr} {A : List Addr} {R : List (List Int)} {ws : List Int} {b : Nat} (T : Tw H0 H ra wa A R ws b) {i : Nat} {a : Addr} {row row' : List Int} (ha : A[i]? = some a) (hr : R[i]? = some row) (f : Fr [a] H H') (h : H' a = some (.lst (row'.map V.int))) (e : ∀ x ∈ row', Evn x) (l : 1 ≤ row'.length ∧ row'.length ≤ 20 + (b + 1)) : Tw H0 H' ra wa A (R.set i row') ws (b + 1) := by
  have hrow := T.rows.it i a row ha hr
  have n : ra ≠ a := ne_of T.hra hrow (fun z => rf_ne2 (T.lr row (List.mem_of_getElem? hr)).1 (HO.lst.inj z))
  have nw : wa ≠ a := fun z => T.nw (z ▸ List.mem_of_getElem? ha)
  have hil := (List.getElem?_eq_some_iff.mp hr).1
  refine ⟨f.g T.hra (nin n), ⟨by rw [List.length_set]; exact T.rows.len, fun j c r hc hr' => ?_⟩, f.g T.hwa (nin nw), fun r hr' => ?_, T.eW, by rw [List.length_set]; exact T.lR, fun r hr' => ?_, by have := T.lw; omega, T.nd, T.fa, T.fw, T.nw⟩
  · rw [List.getElem?_set] at hr'
    by_cases hij : i = j
    · subst hij
      rw [if_pos rfl, if_pos hil] at hr'
      cases hr'
      rw [ha] at hc
      cases hc
      exact h
    · rw [if_neg hij] at hr'
      refine f.g (T.rows.it j c r hc hr') (nin fun z => hij ?_)
      subst z
      exact nodup_idx T.nd ha hc
  · rcases List.mem_or_eq_of_mem_set hr' with h1 | h1
    · exact T.eR r h1
    · rw [h1]; exact e
  · rcases List.mem_or_eq_of_mem_set hr' with h1 | h1
    · have := T.lr r h1; omega
    · rw [h1]; exact l
section
variable {P : Program} {w : World} {K : PySem.W.Frag} {mg : Str → Option Value} {base : Heap}
def sp_change : Sp := fun vs H Q _ => ∃ ra wa A R ws b H0, ∃ x : Int, vs = [.ref ra, .ref wa, .int x] ∧ Tw H0 H ra wa A R ws b ∧ b ≤ 3 ∧ Fr [] H0 H ∧
  ∀ R' ws' H', Tw H0 H' ra wa A R' ws' (b + 1) → R'.length = R.length → Fr [] H0 H' → (∀ a xs, H a = some (.tup xs) → H' a = some (.tup xs)) → Q .non H'
theorem ok__law_change (W : WT P K mg base) : FnOk P w K mg base CX0 2 W.f__law_change W.fd__law_change ["_law_rows_here", "_law_words", "_law_x"] sp_change := by
  refine W.F__law_change.ok sc__law_change (fun vs H Q E h => by obtain ⟨ra, wa, A, R, ws, b, H0, x, rfl, T, hb, f0, k⟩ := h; rfl) (fun cdv A outer s H vs Q E hr h => ?_)
  obtain ⟨ra, wa, A, R, ws, b, H0, x, rfl, T, hb, f0, k⟩ := h
  have hu1 := hu_of hr
  have hu64 := hu64_of hr
  refine ⟨_, (pss_cons (ps_set (i := 3) sc__law_change.nd rfl (by first | exact Or.inl rfl | exact Or.inr rfl) (pe_op op_fdivW (pv 2) pe_int))
      (pss_cons (ps_set (i := 4) sc__law_change.nd rfl (by first | exact Or.inl rfl | exact Or.inr rfl) (pe_call (ok__law_word W) (hr.mono (by decide)) rfl W.g__law_word W.F__law_word.kp W.b__law_word .nil pass0 (pa_cons (pe_op op_fdivW (pv 3) pe_int) (pa_cons (pe_callB call_lenU (by rfl) W.n_len bb_len (pa_cons (pv 0) pa_nil)) pa_nil))))
      (pss_one (ps_if (pt_cmpR (op_eqU hu64) (pe_op op_mod (pe_callTy call_intU (by rfl) W.n_int bb_int (pa_cons (pv 2) pa_nil)) pe_int) pe_int (by first | exact nomark _ | rfl)) (pss_one (ps_expr (pe_bm PySem.F.plainAttrs_list PySem.F.slot_list_append PySem.F.type_list_append mt_append (pv 1) (pa_cons (pv 4) pa_nil)))) (pss_one (ps_if (PW.pt (pw_or (pt_cmpR op_ltU (pe_op op_mod (pe_callTy call_intU (by rfl) W.n_int bb_int (pa_cons (pv 2) pa_nil)) pe_int) pe_int (by first | exact nomark _ | rfl)) (pw_or1 (pt_not (pt_truth (pv 0) (by intro _; rfl)))))) (pss_one (ps_asg (pv 4) (pg_sub (pv 1) (pe_op op_mod (pe_callTy call_intU (by rfl) W.n_int bb_int (pa_cons (pv 3) pa_nil)) pe_int) set_list))) (pss_one (ps_if (pt_cmpR (op_eqU hu64) (pe_op op_mod (pe_callTy call_intU (by rfl) W.n_int bb_int (pa_cons (pv 2) pa_nil)) pe_int) pe_int (by first | exact nomark _ | rfl)) (pss_one (ps_expr (pe_bm PySem.F.plainAttrs_list PySem.F.slot_list_append PySem.F.type_list_append mt_append (pe_ix (ix_U hu1) (pv 0) (pe_op op_mod (pe_callTy call_intU (by rfl) W.n_int bb_int (pa_cons (pv 3) pa_nil)) (pe_callB call_lenU (by rfl) W.n_len bb_len (pa_cons (pv 0) pa_nil))) (fun _ _ => rfl)) (pa_cons (pv 4) pa_nil)))) (pss_cons (ps_set (i := 5) sc__law_change.nd rfl (by first | exact Or.inl rfl | exact Or.inr rfl) (pe_ix (ix_U hu1) (pv 0) (pe_op op_mod (pe_callTy call_intU (by rfl) W.n_int bb_int (pa_cons (pv 3) pa_nil)) (pe_callB call_lenU (by rfl) W.n_len bb_len (pa_cons (pv 0) pa_nil))) (fun _ _ => rfl)))
      (pss_one (ps_asg (pv 4) (pg_sub (pv 5) (pe_op op_mod (pe_op op_fdivW (pv 3) pe_int) (pe_callB call_lenU (by rfl) W.n_len bb_len (pa_cons (pv 5) pa_nil))) set_list)))))))))))), ?_⟩
  refine z_start (σ := [some _, some _, some _, none, none, none]) rfl ?_
  one_sign
  have hra := T.hra
  have hwa := T.hwa
  have hlA := T.rows.len
  have hlR := T.lR
  have lw := T.lw
  refine z_lenL hra ?_
  one_sign
  rw [List.length_map, hlA]
  refine ⟨_, _, rfl, by omega, by omega, fun r hr0 => ?_⟩
  have up : ∀ {H' : Hp}, True := fun {_} => trivial
  one_sign
  refine iteD (fun h => ?_) (fun h => ?_)
  · one_sign
    refine z_append hwa (by rw [List.length_map, sizeLine_eq]; omega) fun H1 f1 w1 n1 => ?_
    have w1 : H1 wa = some (.lst ((ws ++ [r]).map V.int)) := by rw [w1, List.map_append]; rfl
    have eW : ∀ y ∈ ws ++ [r], Evn y := fun y hy => by
      rcases List.mem_append.mp hy with h | h
      · exact T.eW y h
      · rw [List.mem_singleton.mp h]; exact hr0
    exact k R (ws ++ [r]) H1 (T.words f1 w1 eW (by rw [List.length_append]; show _ ≤ _ + 1 ∧ _ + 1 ≤ _; omega)) rfl (f0.in f1 T.fw) (f1.tp1 hwa (by intro _ z; cases z))
  have setw : ∀ Q' : Hp → Prop, (∀ H1, Q .non H1 → Q' H1) → rSetL (.ref wa) (.int (x / 8 % 16)) (.int r) H Q' := fun Q' hQ' => by
    have e1 := Int.emod_nonneg (x / 8) (by decide : (16 : Int) ≠ 0)
    have e2 := Int.emod_lt_of_pos (x / 8) (by decide : (0 : Int) < 16)
    rw [show x / 8 % 16 = ((x / 8 % 16).toNat : Int) by omega]
    refine z_setL hwa (ixN_nat (by rw [List.length_map]; omega)) fun H1 f1 w1 n1 => hQ' _ ?_
    rw [← List.map_set] at w1
    refine k R (ws.set (x / 8 % 16).toNat r) H1 (T.words f1 w1 (fun y hy => ?_) (by rw [List.length_set]; omega)) rfl (f0.in f1 T.fw) (f1.tp1 hwa (by intro _ z; cases z))
    rcases List.mem_or_eq_of_mem_set hy with h1 | h1
    · exact T.eW y h1
    · rw [h1]; exact hr0
  one_sign
  refine iteD (fun h3 => ?_) (fun h3 => ?_)
  · one_sign
    exact setw _ fun H1 q => q
  by_cases hRe : R = []
  · have hAe : A = [] := List.eq_nil_of_length_eq_zero (by rw [hlA, hRe]; rfl)
    subst hAe
    one_sign
    dsimp only
    refine iteT ?_
    one_sign
    exact setw _ fun H1 q => q
  · one_sign
    dsimp only
    have hRl : 1 ≤ R.length := by cases R with
      | nil => exact absurd rfl hRe
      | cons _ _ => simp
    refine ifF (by cases A with
      | nil => exfalso; have : ([] : List Addr).length = R.length := hlA; simp at this; omega
      | cons _ _ => rfl) ?_
    one_sign
    have e1 := Int.emod_nonneg (x / 8) (by omega : (R.length : Int) ≠ 0)
    have e2 := Int.emod_lt_of_pos (x / 8) (by omega : (0 : Int) < R.length)
    obtain ⟨row, hrow⟩ : ∃ y, R[(x / 8 % (R.length : Int)).toNat]? = some y := ⟨_, List.getElem?_eq_getElem (by omega)⟩
    obtain ⟨a, ha⟩ : ∃ y, A[(x / 8 % (R.length : Int)).toNat]? = some y := ⟨_, List.getElem?_eq_getElem (by omega)⟩
    have hix : atI (A.map V.ref) (x / 8 % (R.length : Int)) = some (.ref a) := by
      rw [show x / 8 % (R.length : Int) = ((x / 8 % (R.length : Int)).toNat : Int) by omega]; exact atI_nat (ref_at ha)
    have hrl := T.lr _ (List.mem_of_getElem? hrow)
    have her := T.eR _ (List.mem_of_getElem? hrow)
    have hr1 := T.rows.it _ _ _ ha hrow
    have fa := T.fa a (List.mem_of_getElem? ha)
    refine iteD (fun h4 => ?_) (fun h4 => ?_)
    · one_sign
      refine z_rI (by show (0 : Int) < ((A.map V.ref).length : Nat); rw [List.length_map]; omega) ?_
      rw [List.length_map, hlA]
      refine z_ixL hra hix ?_
      one_sign
      refine z_append hr1 (by rw [List.length_map, sizeLine_eq]; omega) fun H1 f1 w1 n1 => ?_
      have w1 : H1 a = some (.lst ((row ++ [r]).map V.int)) := by rw [w1, List.map_append]; rfl
      refine k _ ws H1 (T.rowset ha hrow f1 w1 (fun y hy => ?_) (by rw [List.length_append]; show _ ≤ _ + 1 ∧ _ + 1 ≤ _; omega)) (List.length_set) (f0.in f1 fa) (f1.tp1 hr1 (by intro _ z; cases z))
      rcases List.mem_append.mp hy with h | h
      · exact her y h
      · rw [List.mem_singleton.mp h]; exact hr0
    · one_sign
      refine z_rI (by show (0 : Int) < ((A.map V.ref).length : Nat); rw [List.length_map]; omega) ?_
      rw [List.length_map, hlA]
      refine z_ixL hra hix ?_
      one_sign
      refine z_rI (by show (0 : Int) < ((row.map V.int).length : Nat); rw [List.length_map]; omega) ?_
      rw [List.length_map]
      have e3 := Int.emod_nonneg (x / 8 / 64) (by omega : (row.length : Int) ≠ 0)
      have e4 := Int.emod_lt_of_pos (x / 8 / 64) (by omega : (0 : Int) < row.length)
      rw [show x / 8 / 64 % (row.length : Int) = ((x / 8 / 64 % (row.length : Int)).toNat : Int) by omega]
      refine z_setL hr1 (ixN_nat (by rw [List.length_map]; omega)) fun H1 f1 w1 n1 => ?_
      rw [← List.map_set] at w1
      refine k _ ws H1 (T.rowset ha hrow f1 w1 (fun y hy => ?_) (by rw [List.length_set]; omega)) (List.length_set) (f0.in f1 fa) (f1.tp1 hr1 (by intro _ z; cases z))
      rcases List.mem_or_eq_of_mem_set hy with h1 | h1
      · exact her y h1
      · rw [h1]; exact hr0
end

end LX
namespace LX
open PySem PySem.Spec PyProof.Rows L2 NdefX
set_option hygiene false in
local macro_rules | `(tactic| k_memK) => `(tactic| first | exact W.na_Comparison_one | exact W.na_Comparison_other | exact W.na_Comparison_there | exact W.na_Comparison_back | exact W.na_Comparison_first | exact W.na_Store_room | exact W.na_Store_entries | exact W.na_Store_words | exact W.na_Store__places | exact W.na_Store__least | exact W.na_Space_store | exact W.na_Space_pressure | exact W.na_Space_always | exact W.na_Space_allocations | exact W.na_Space_collections | exact W.na_Space__roots | exact W.na_Space__held | exact W.na_Space__saved)
set_option hygiene false in
local macro_rules | `(tactic| k_ownIn) => `(tactic| first | exact W.C_Comparison | exact W.C_Store | exact W.C_Space)
local macro_rules | `(tactic| none_booked) => `(tactic| first | assumption | (refine Fr.g0 (by assumption) ?_; none_booked))
local macro_rules | `(tactic| one_sign) => `(tactic| repeat (first
  | refine Stp.h ?_
  | ((with_reducible refine' z_fld1 ?k0 ?k1 ?k2 ?k3 ?_); (case k0 => none_booked); (case k1 => k_ownIn); (case k2 => k_memK); (case k3 => rfl))
  | ((with_reducible refine' z_meth1 ?k0 ?k1 ?_); (case k0 => none_booked); (case k1 => rfl))
  | ((with_reducible refine' z_bmL ?k0 ?_); (case k0 => none_booked))
  | ((with_reducible refine' z_lenL ?k0 ?_); (case k0 => none_booked))
  | ((with_reducible refine' z_lenT ?k0 ?_); (case k0 => none_booked))
  | ((with_reducible refine' z_lenD ?k0 ?_); (case k0 => none_booked))
  | ((with_reducible refine' z_truL ?k0 ?_); (case k0 => none_booked))
  | ((with_reducible refine' z_truD ?k0 ?_); (case k0 => none_booked))
  | ((with_reducible refine' z_truT ?k0 ?_); (case k0 => none_booked))
  | ((with_reducible refine' z_inDIP ?k0 ?_); (case k0 => none_booked))
  | ((with_reducible refine' z_inDIN ?k0 ?_); (case k0 => none_booked))
  | ((with_reducible refine' z_inDfP ?k0 ?_); (case k0 => none_booked))
  | ((with_reducible refine' z_inDfN ?k0 ?_); (case k0 => none_booked))
  | ((with_reducible refine' z_iList1 ?k0 ?_); (case k0 => none_booked))
  | ((with_reducible refine' z_isi0 ?k0 ?k1 ?k2 ?_); (case k0 => exact (ClsV.ty _)); (case k1 => exact (TyX.base (TyOf.lst (by none_booked)))); (case k2 => first | exact kt_list_int | exact kt_list_bool | exact kt_list_str | exact kt_list_list | exact kt_list_tuple | exact kt_list_dict))
  | ((with_reducible refine' z_rI ?k0 ?_); (case k0 => first | exact (by decide : (0 : Int) < _) | exact ⟨by decide, by decide⟩ | exact ⟨by decide, by decide, by decide⟩ | (show (0 : Int) < _; omega)))
  | ((with_reducible refine' z_mulI ?k0 ?_); (case k0 => first | exact Or.inr ⟨by decide, by decide⟩ | exact Or.inl ⟨by decide, by decide⟩ | exact Or.inl ⟨by omega, by omega⟩ | exact Or.inr ⟨by omega, by omega⟩))))
local macro_rules | `(tactic| leaf_len) => `(tactic| (simp only [wipe, List.map_cons, List.map_nil, List.set_cons_zero, List.set_cons_succ]; one_sign; refine z_ok rfl ?_; one_sign))

theorem PrsAt.erase {H : Hp} {A : List Addr} {ps : List (Int × Int)} (h : PrsAt H A ps) (j : Nat) : PrsAt H (A.eraseIdx j) (ps.eraseIdx j) := by
  refine ⟨by rw [List.length_eraseIdx, List.length_eraseIdx, h.1], fun i a p e1 e2 => ?_⟩
  rw [List.getElem?_eraseIdx] at e1 e2
  by_cases hij : i < j
  · rw [if_pos hij] at e1 e2; exact h.2 _ _ _ e1 e2
  · rw [if_neg hij] at e1 e2; exact h.2 _ _ _ e1 e2
theorem PrsAt.set {H : Hp} {A : List Addr} {ps : List (Int × Int)} (h : PrsAt H A ps) (j : Nat) {a : Addr} {p : Int × Int} (ha : H a = some (.tup [.int p.1, .int p.2])) : PrsAt H (A.set j a) (ps.set j p) := by
  refine ⟨by rw [List.length_set, List.length_set, h.1], fun i b q e1 e2 => ?_⟩
  rw [List.getElem?_set] at e1 e2
  by_cases hij : j = i
  · subst hij
    rw [if_pos rfl] at e1 e2
    by_cases hl : j < A.length
    · rw [if_pos hl] at e1; rw [if_pos (by rw [← h.1]; exact hl)] at e2; cases e1; cases e2; exact ha
    · rw [if_neg hl] at e1; cases e1
  · rw [if_neg hij] at e1 e2; exact h.2 _ _ _ e1 e2
theorem PrsAt.tp {H H' : Hp} {A : List Addr} {ps : List (Int × Int)} (h : PrsAt H A ps) (f : TP H H') : PrsAt H' A ps := ⟨h.1, fun i a p e1 e2 => f _ _ (h.2 i a p e1 e2)⟩
theorem z_popV {H : Hp} {Q : VK} {la : Addr} {l : List V} {i : Nat} {y : V} (h1 : H la = some (.lst l)) (h2 : l[i]? = some y) (hl : l.length ≤ 1000) (k : ∀ H1, Fr [la] H H1 → H1 la = some (.lst (l.eraseIdx i)) → (∀ b, H b = none → H1 b = none) → Q y H1) : rPopAt (.ref la) [.int (i : Int)] H Q := by
  have hi := (List.getElem?_eq_some_iff.mp h2).1
  exact ⟨la, l, i, i, y, rfl, rfl, h1, by omega, by omega, PySem.seqIndex_of (k := (i : Int)) (by omega) (by omega), h2, k _ (Fr.at (by simp)) upd_same (upd_free h1)⟩
theorem map_erase {A : List Addr} {j : Nat} : (A.map V.ref).eraseIdx j = (A.eraseIdx j).map V.ref := by
  rw [List.eraseIdx_eq_take_drop_succ, List.eraseIdx_eq_take_drop_succ, List.map_append, List.map_take, List.map_drop]
section
variable {P : Program} {w : World} {K : PySem.W.Frag} {mg : Str → Option Value} {base : Heap}
def sp_path : Sp := fun vs H Q _ => ∃ wt R ws, ∃ x : Int, vs = [.ref wt, .int x] ∧ WL H wt R ws ∧ ∀ t (p : List Int) H', H' t = some (.tup (p.map V.int)) → p.length ≤ 10 → Fr [] H H' → Q (.ref t) H'
theorem ok__law_path (W : WT P K mg base) : FnOk P w K mg base CX0 2 W.f__law_path W.fd__law_path ["_law_world", "_law_x"] sp_path := by
  refine W.F__law_path.ok sc__law_path (fun vs H Q E h => by obtain ⟨wt, R, ws, x, rfl, WD, k⟩ := h; rfl) (fun cdv A outer s H vs Q E hr h => ?_)
  obtain ⟨wt, R, ws, x, rfl, WD, k⟩ := h
  have hu1 := hu_of hr
  have hu64 := hu64_of hr
  refine ⟨_, (pss_cons (ps_set (i := 2) sc__law_path.nd rfl (by first | exact Or.inl rfl | exact Or.inr rfl) (pe_lst pa_nil))
      (pss_cons (ps_set (i := 3) sc__law_path.nd rfl (by first | exact Or.inl rfl | exact Or.inr rfl) (pe_op op_addU (pe_lst (pa_cons pe_int pa_nil)) (pe_ix (ix_U hu1) (pv 0) pe_int (fun _ _ => rfl))))
      (pss_cons (ps_set (i := 4) sc__law_path.nd rfl (by first | exact Or.inl rfl | exact Or.inr rfl) (pe_op op_fdivW (pv 1) pe_int))
      (pss_cons (ps_for PassesOwn.never rfl (pi_range1 (by rfl) W.n_range (pa_cons (pe_op op_addU pe_int (pe_op op_mod (pe_callTy call_intU (by rfl) W.n_int bb_int (pa_cons (pv 1) pa_nil)) pe_int)) pa_nil)) (pg_name (i := 5) sc__law_path.nd rfl (by first | exact Or.inl rfl | exact Or.inr rfl)) (pss_cons (ps_expr (pe_bm PySem.F.plainAttrs_list PySem.F.slot_list_append PySem.F.type_list_append mt_append (pv 2) (pa_cons (pe_op op_mod (pe_callTy call_intU (by rfl) W.n_int bb_int (pa_cons (pv 4) pa_nil)) (pe_op op_addU (pe_callB call_lenU (by rfl) W.n_len bb_len (pa_cons (pv 3) pa_nil)) pe_int)) pa_nil)))
      (pss_cons (ps_set (i := 4) sc__law_path.nd rfl (by first | exact Or.inl rfl | exact Or.inr rfl) (pe_op op_fdivW (pv 4) pe_int))
      (pss_cons (ps_set (i := 6) sc__law_path.nd rfl (by first | exact Or.inl rfl | exact Or.inr rfl) (pe_call (ok__law_walk W) (hr.mono (by decide)) rfl W.g__law_walk W.F__law_walk.kp W.b__law_walk .nil pass0 (pa_cons (pv 0) (pa_cons (pv 2) pa_nil))))
      (pss_cons (ps_if (pt_cmpR op_isU (pe_call (ok__law_thing W) (hr.mono (by decide)) rfl W.g__law_thing W.F__law_thing.kp W.b__law_thing .nil pass0 (pa_cons (pv 0) (pa_cons (pv 6) pa_nil))) pe_non (by first | exact nomark _ | rfl)) (pss_one ps_break) pss_nil)
      (pss_one (ps_set (i := 3) sc__law_path.nd rfl (by first | exact Or.inl rfl | exact Or.inr rfl) (pe_ix (ix_U hu1) (pe_ix (ix_U hu1) (pv 0) pe_int (fun _ _ => rfl)) (pe_op op_fdivW (pv 6) pe_int) (fun _ _ => rfl)))))))))
      (pss_one (ps_ret (pe_callTy call_tupleU (by rfl) W.n_tuple bb_tuple (pa_cons (pv 2) pa_nil)))))))), ?_⟩
  refine z_start (σ := [some _, some _, none, none, none, none, none]) rfl ?_
  one_sign
  have WD' := WD
  obtain ⟨ra, wa, A, hwt, L⟩ := WD'
  have lw := L.lw
  refine z_newL (by show 0 ≤ sizeLine; decide) fun pa H1 hpa f1 p1 => ?_
  one_sign
  refine z_newL (by show 1 ≤ sizeLine; decide) fun q1 H2 hq1 f2 q12 => ?_
  one_sign
  refine z_ixT (f2.g0 (f1.g0 hwt)) rfl ?_
  one_sign
  refine z_addL q12 (f2.g0 (f1.g0 L.wa)) (by rw [List.length_map, sizeLine_eq]; show 1 + ws.length ≤ _; omega) fun q2 H3 hq2 f3 q23 => ?_
  have q23 : H3 q2 = some (.lst ((0 :: ws).map V.int)) := q23
  have f13 := (f1.trans f2).trans f3
  have p3 := f3.g0 (f2.g0 p1)
  have e1 := Int.emod_nonneg x (by decide : (5 : Int) ≠ 0)
  have e2 := Int.emod_lt_of_pos x (by decide : (0 : Int) < 5)
  one_sign
  refine z_rng1 (1 + (x % 5).toNat) (by omega) (by omega) ?_
  refine for_range (lo := 0) (n := 1 + (x % 5).toNat) (fun j σ H' => ∃ (p row : List Int) (r : Addr) (rest : Int) (v5 v6 : Option V), σ = [some (.ref wt), some (.int x), some (.ref pa), some (.ref r), some (.int rest), v5, v6] ∧ H' pa = some (.lst (p.map V.int)) ∧ p.length = j ∧ H' r = some (.lst (row.map V.int)) ∧ pa ≠ r ∧ Fr [] H H')
    ⟨[], 0 :: ws, q2, _, _, _, rfl, p3, rfl, q23, ne_of_none (f2.g0 p1) hq2, f13⟩ (fun j σ H4 hj hI => ?_) (fun σ H4 hI => ?_)
  · obtain ⟨p, row, r, rest, v5, v6, rfl, p4, hpl, r4, npr, f4⟩ := hI
    have c1 := Int.emod_nonneg rest (by omega : ((row.length : Int) + 1) ≠ 0)
    one_sign
    rw [List.length_map]
    refine z_append p4 (by rw [List.length_map, sizeLine_eq]; omega) fun H5 f5 p5 n5 => ?_
    have p5 : H5 pa = some (.lst ((p ++ [rest % ((row.length : Int) + 1)]).map V.int)) := by rw [p5, List.map_append]; rfl
    have f05 : Fr [] H H5 := f4.in f5 hpa
    generalize hpp : p ++ [rest % ((row.length : Int) + 1)] = pp at p5
    have hppl : pp.length = j + 1 := by rw [← hpp, List.length_append, hpl]; rfl
    one_sign
    refine ⟨wt, pa, R, ws, pp, rfl, WD.keep f05, .inl p5, by omega, fun H6 f6 => ?_⟩
    have f06 := f05.trans f6
    have p6 := f6.g0 p5
    one_sign
    refine ⟨wt, R, ws, walkW R (0 :: ws) pp, rfl, WD.keep f06, fun v e => walkW_evn L.eR L.e0 e, ?_⟩
    cases ew : walkW R (0 :: ws) pp with
    | none =>
      simp only [optV, Option.bind_none]
      one_sign
      refine z_tupL p6 fun t H7 ht f7 t7 => ?_
      exact k t pp H7 t7 (by omega) (f06.trans f7)
    | some v =>
      rw [show (some v).bind (objN R) = objN R v from rfl]
      cases eo : objN R v with
      | none =>
        simp only [optV]
        one_sign
        refine z_tupL p6 fun t H7 ht f7 t7 => ?_
        exact k t pp H7 t7 (by omega) (f06.trans f7)
      | some n =>
        obtain ⟨-, hn, n0, n1⟩ := objN_ok eo
        obtain ⟨a, ha⟩ : ∃ a, A[n.toNat]? = some a := ⟨_, List.getElem?_eq_getElem (by rw [L.rows.len]; omega)⟩
        simp only [optV]
        one_sign
        refine z_ixT (f06.g0 hwt) rfl ?_
        one_sign
        refine z_ixL (f06.g0 L.ra) (by rw [← hn, show n = (n.toNat : Int) by omega]; exact atI_nat (ref_at ha)) ?_
        have a6 := L.rows.it _ _ _ ha (row_of n0 n1)
        exact ⟨pp, rowN R n, a, _, _, _, rfl, p6, hppl, f06.g0 a6, (ne_of_none a6 hpa).symm, f06⟩
  · obtain ⟨p, row, r, rest, v5, v6, rfl, p4, hpl, r4, npr, f4⟩ := hI
    one_sign
    refine z_tupL p4 fun t H7 ht f7 t7 => ?_
    exact k t p H7 t7 (by omega) (f4.trans f7)
def sp_verd : Sp := fun vs H Q _ => ∃ o1 o2 R1 R2 ws1 ws2 la A ps, ∃ x : Int, vs = [.ref o1, .ref o2, .ref la, .int x] ∧ WL H o1 R1 ws1 ∧ WL H o2 R2 ws2 ∧ H la = some (.lst (A.map V.ref)) ∧ PrsAt H A ps ∧ ps.length ≤ 900 ∧
  ∀ t v H', VdAt H' t v → VdB v → Fr [] H H' → Q (.ref t) H'
theorem ok__law_verdict (W : WT P K mg base) : FnOk P w K mg base CX0 3 W.f__law_verdict W.fd__law_verdict ["_law_one", "_law_other", "_law_pairs", "_law_x"] sp_verd := by
  refine W.F__law_verdict.ok sc__law_verdict (fun vs H Q E h => by obtain ⟨o1, o2, R1, R2, ws1, ws2, la, As, ps, x, rfl, V1, V2, hla, hA, hps, k⟩ := h; rfl) (fun cdv A outer s H vs Q E hr h => ?_)
  obtain ⟨o1, o2, R1, R2, ws1, ws2, la, As, ps, x, rfl, V1, V2, hla, hA, hps, k⟩ := h
  have hu1 := hu_of hr
  have hu64 := hu64_of hr
  refine ⟨_, (pss_cons (ps_set (i := 4) sc__law_verdict.nd rfl (by first | exact Or.inl rfl | exact Or.inr rfl) (pe_op op_fdivW (pv 3) pe_int))
      (pss_cons (ps_set (i := 5) sc__law_verdict.nd rfl (by first | exact Or.inl rfl | exact Or.inr rfl) (pe_op op_mod (pe_callTy call_intU (by rfl) W.n_int bb_int (pa_cons (pv 3) pa_nil)) pe_int))
      (pss_cons (ps_if (pt_cmpR (op_eqU hu64) (pv 5) pe_int (by first | exact nomark _ | rfl)) (pss_one (ps_ret (pe_tup (pa_cons (pe_strT (show (PySem.Str.ofString "held") = T [104, 101, 108, 100] by decide +kernel)) pa_nil)))) pss_nil)
      (pss_cons (ps_if (pt_cmpR op_ltU (pv 5) pe_int (by first | exact nomark _ | rfl)) (pss_one (ps_ret (pe_tup (pa_cons (pe_ix (ix_U hu1) (pe_lst (pa_cons (pe_strT (show (PySem.Str.ofString "word") = T [119, 111, 114, 100] by decide +kernel)) (pa_cons (pe_strT (show (PySem.Str.ofString "size") = T [115, 105, 122, 101] by decide +kernel)) pa_nil))) (pe_op op_sub (pv 5) pe_int) (fun _ _ => rfl)) (pa_cons (pe_call (ok__law_path W) (hr.mono (by decide)) rfl W.g__law_path W.F__law_path.kp W.b__law_path .nil pass0 (pa_cons (pv 0) (pa_cons (pv 4) pa_nil))) pa_nil))))) pss_nil)
      (pss_cons (ps_if (pt_cmpR op_ltU (pv 5) pe_int (by first | exact nomark _ | rfl)) (pss_one (ps_ret (pe_tup (pa_cons (pe_strT (show (PySem.Str.ofString "same") = T [115, 97, 109, 101] by decide +kernel)) (pa_cons (pe_call (ok__law_path W) (hr.mono (by decide)) rfl W.g__law_path W.F__law_path.kp W.b__law_path .nil pass0 (pa_cons (pv 0) (pa_cons (pv 4) pa_nil))) (pa_cons (pe_call (ok__law_path W) (hr.mono (by decide)) rfl W.g__law_path W.F__law_path.kp W.b__law_path .nil pass0 (pa_cons (pv 1) (pa_cons (pe_op op_fdivW (pv 4) pe_int) pa_nil))) pa_nil)))))) pss_nil)
      (pss_cons (ps_set (i := 6) sc__law_verdict.nd rfl (by first | exact Or.inl rfl | exact Or.inr rfl) (pe_callTy call_listU (by rfl) W.n_list bb_list (pa_cons (pv 2) pa_nil)))
      (pss_cons (ps_if (PW.pt (pw_and (pt_cmpR (op_eqU hu64) (pv 5) pe_int (by first | exact nomark _ | rfl)) (pw_and1 (pt_truth (pv 6) (by intro _; rfl))))) (pss_one (ps_expr (pe_bm PySem.F.plainAttrs_list PySem.F.slot_list_pop PySem.F.type_list_pop mt_popAt (pv 6) (pa_cons (pe_op op_mod (pe_callTy call_intU (by rfl) W.n_int bb_int (pa_cons (pv 4) pa_nil)) (pe_callB call_lenU (by rfl) W.n_len bb_len (pa_cons (pv 6) pa_nil))) pa_nil)))) (pss_one (ps_if (PW.pt (pw_and (pt_cmpR (op_eqU hu64) (pv 5) pe_int (by first | exact nomark _ | rfl)) (pw_and1 (pt_truth (pv 6) (by intro _; rfl))))) (pss_one (ps_asg (pe_tup (pa_cons (pe_op op_mod (pe_op op_fdivW (pv 4) pe_int) (pe_op op_addU (pe_callB call_lenU (by rfl) W.n_len bb_len (pa_cons (pe_ix (ix_U hu1) (pv 0) pe_int (fun _ _ => rfl)) pa_nil)) pe_int)) (pa_cons (pe_op op_mod (pe_op op_fdivW (pv 4) pe_int) (pe_op op_addU (pe_callB call_lenU (by rfl) W.n_len bb_len (pa_cons (pe_ix (ix_U hu1) (pv 1) pe_int (fun _ _ => rfl)) pa_nil)) pe_int)) pa_nil))) (pg_sub (pv 6) (pe_op op_mod (pe_callTy call_intU (by rfl) W.n_int bb_int (pa_cons (pv 4) pa_nil)) (pe_callB call_lenU (by rfl) W.n_len bb_len (pa_cons (pv 6) pa_nil))) set_list))) (pss_one (ps_if (PW.pt (pw_and (pt_cmpR (op_eqU hu64) (pv 5) pe_int (by first | exact nomark _ | rfl)) (pw_and1 (pt_cmpR op_gtU (pe_callB call_lenU (by rfl) W.n_len bb_len (pa_cons (pv 6) pa_nil)) pe_int (by first | exact nomark _ | rfl))))) (pss_cons (ps_set (i := 7) sc__law_verdict.nd rfl (by first | exact Or.inl rfl | exact Or.inr rfl) (pe_op op_mod (pe_callTy call_intU (by rfl) W.n_int bb_int (pa_cons (pv 4) pa_nil)) (pe_op op_sub (pe_callB call_lenU (by rfl) W.n_len bb_len (pa_cons (pv 6) pa_nil)) pe_int)))
      (pss_cons (ps_set (i := 8) sc__law_verdict.nd rfl (by first | exact Or.inl rfl | exact Or.inr rfl) (pe_ix (ix_U hu1) (pe_ix (ix_U hu1) (pv 6) (pv 7) (fun _ _ => rfl)) pe_int (fun _ _ => rfl)))
      (pss_cons (ps_asg (pe_tup (pa_cons (pe_ix (ix_U hu1) (pe_ix (ix_U hu1) (pv 6) (pv 7) (fun _ _ => rfl)) pe_int (fun _ _ => rfl)) (pa_cons (pe_ix (ix_U hu1) (pe_ix (ix_U hu1) (pv 6) (pe_op op_addU (pv 7) pe_int) (fun _ _ => rfl)) pe_int (fun _ _ => rfl)) pa_nil))) (pg_sub (pv 6) (pv 7) set_list))
      (pss_one (ps_asg (pe_tup (pa_cons (pe_ix (ix_U hu1) (pe_ix (ix_U hu1) (pv 6) (pe_op op_addU (pv 7) pe_int) (fun _ _ => rfl)) pe_int (fun _ _ => rfl)) (pa_cons (pv 8) pa_nil))) (pg_sub (pv 6) (pe_op op_addU (pv 7) pe_int) set_list)))))) pss_nil)))))
      (pss_one (ps_ret (pe_tup (pa_cons (pe_strT (show (PySem.Str.ofString "alike") = T [97, 108, 105, 107, 101] by decide +kernel)) (pa_cons (pv 6) pa_nil)))))))))))), ?_⟩
  refine z_start (σ := [some _, some _, some _, some _, none, none, none, none, none]) rfl ?_
  one_sign
  have e1 := Int.emod_nonneg x (by decide : (8 : Int) ≠ 0)
  have e2 := Int.emod_lt_of_pos x (by decide : (0 : Int) < 8)
  have hAl : (As.map V.ref).length = ps.length := by rw [List.length_map, hA.1]
  generalize x % 8 = fm at e1 e2
  refine iteD (fun h => ?_) (fun h => ?_)
  · one_sign
    refine z_newL (by show 1 ≤ sizeLine; decide) fun t H1 ht f1 t1 => ?_
    exact k t .held H1 t1 trivial f1
  have h : ¬ fm = 0 := h
  one_sign
  refine iteD (fun h3 => ?_) (fun h3 => ?_)
  · have h3 : fm < 3 := h3
    one_sign
    refine z_newL (by show 2 ≤ sizeLine; decide) fun q H1 hq f1 q1 => ?_
    one_sign
    rcases (by omega : fm = 1 ∨ fm = 2) with rfl | rfl
    · refine z_ixL q1 rfl ?_
      one_sign
      refine ⟨o1, R1, ws1, x / 8, rfl, V1.keep f1, fun t1 p H2 t12 hp f2 => ?_⟩
      one_sign
      refine z_newL (by show 2 ≤ sizeLine; decide) fun t H3 ht f3 t3 => ?_
      exact k t (.word p) H3 ⟨t1, t3, f3.g0 t12⟩ (by show p.length ≤ 1000; omega) ((f1.trans f2).trans f3)
    · refine z_ixL q1 rfl ?_
      one_sign
      refine ⟨o1, R1, ws1, x / 8, rfl, V1.keep f1, fun t1 p H2 t12 hp f2 => ?_⟩
      one_sign
      refine z_newL (by show 2 ≤ sizeLine; decide) fun t H3 ht f3 t3 => ?_
      exact k t (.size p) H3 ⟨t1, t3, f3.g0 t12⟩ (by show p.length ≤ 1000; omega) ((f1.trans f2).trans f3)
  have h3 : ¬ fm < 3 := h3
  one_sign
  refine iteD (fun h5 => ?_) (fun h5 => ?_)
  · one_sign
    refine ⟨o1, R1, ws1, x / 8, rfl, V1, fun t1 p H2 t12 hp f2 => ?_⟩
    one_sign
    refine ⟨o2, R2, ws2, x / 8 / 1000003, rfl, V2.keep f2, fun t2 q H3 t23 hq f3 => ?_⟩
    one_sign
    refine z_newL (by show 3 ≤ sizeLine; decide) fun t H4 ht f4 t4 => ?_
    exact k t (.same p q) H4 ⟨t1, t2, t4, f4.g0 (f3.g0 t12), f4.g0 t23⟩ (by show p.length ≤ 1000 ∧ q.length ≤ 1000; omega) ((f2.trans f3).trans f4)
  have h5 : ¬ fm < 5 := h5
  one_sign
  refine z_listL hla fun ca H1 hca f1 c1 => ?_
  have hA1 := hA.keep f1
  have done : ∀ (A' : List Addr) (ps' : List (Int × Int)) (H2 : Hp), H2 ca = some (.lst (A'.map V.ref)) → PrsAt H2 A' ps' → ps'.length ≤ 1000 → Fr [] H H2 → ∀ t H3, Fr [] H2 H3 → H3 t = some (.tup [.str sALIKE, .ref ca]) → Q (.ref t) H3 := fun A' ps' H2 c2 hP hl f2 t H3 f3 t3 => k t (.alike ps') H3 ⟨ca, A', t3, f3.g0 c2, hP.keep f3⟩ hl (f2.trans f3)
  have tp1 : ∀ {H2 H3 : Hp} {A' : List Addr}, H2 ca = some (.lst (A'.map V.ref)) → Fr [ca] H2 H3 → TP H2 H3 := fun h f => f.tp1 h (by intro _ z; cases z)
  have c1' : H1 ca = some (.lst (As.map V.ref)) := c1
  rcases (by omega : fm = 5 ∨ fm = 6 ∨ fm = 7) with rfl | rfl | rfl
  · one_sign
    refine ifT (by decide) ?_
    one_sign
    dsimp only
    by_cases hAe : As = []
    · subst hAe
      refine ifF rfl ?_
      one_sign
      refine ifF (by decide) ?_
      one_sign
      refine ifF (by decide) ?_
      one_sign
      refine z_newL (by show 2 ≤ sizeLine; decide) fun t H3 ht f3 t3 => ?_
      exact done _ ps H1 c1' hA1 (by omega) f1 t H3 f3 t3
    · have hpl : 1 ≤ ps.length := by
        cases As with
        | nil => exact absurd rfl hAe
        | cons a As => rw [← hAl]; simp
      have g1 := Int.emod_nonneg (x / 8) (by omega : (ps.length : Int) ≠ 0)
      have g2 := Int.emod_lt_of_pos (x / 8) (by omega : (0 : Int) < ps.length)
      refine iteNE (fun e => hAe (List.map_eq_nil_iff.mp e)) ?_
      one_sign
      rw [hAl]
      rw [show x / 8 % (ps.length : Int) = ((x / 8 % (ps.length : Int)).toNat : Int) by omega]
      obtain ⟨y, hy⟩ : ∃ y, (As.map V.ref)[(x / 8 % (ps.length : Int)).toNat]? = some y := ⟨_, List.getElem?_eq_getElem (by omega)⟩
      one_sign
      refine z_popV c1' hy (by omega) fun H2 f2 c2 n2 => ?_
      rw [map_erase] at c2
      one_sign
      refine z_newL (by show 2 ≤ sizeLine; decide) fun t H3 ht f3 t3 => ?_
      exact done _ _ H2 c2 ((hA1.tp (tp1 c1' f2)).erase _) (by have := List.length_eraseIdx_le ps (x / 8 % (ps.length : Int)).toNat; omega) (f1.in f2 hca) t H3 f3 t3
  · one_sign
    refine ifF (by decide) ?_
    one_sign
    refine ifT (by decide) ?_
    one_sign
    dsimp only
    by_cases hAe : As = []
    · subst hAe
      refine ifF rfl ?_
      one_sign
      refine ifF (by decide) ?_
      one_sign
      refine z_newL (by show 2 ≤ sizeLine; decide) fun t H3 ht f3 t3 => ?_
      exact done _ ps H1 c1' hA1 (by omega) f1 t H3 f3 t3
    · have hpl : 1 ≤ ps.length := by
        cases As with
        | nil => exact absurd rfl hAe
        | cons a As => rw [← hAl]; simp
      have g1 := Int.emod_nonneg (x / 8) (by omega : (ps.length : Int) ≠ 0)
      have g2 := Int.emod_lt_of_pos (x / 8) (by omega : (0 : Int) < ps.length)
      refine iteNE (fun e => hAe (List.map_eq_nil_iff.mp e)) ?_
      have V1' := V1.keep f1
      have V2' := V2.keep f1
      obtain ⟨ra1, wa1, A1, hw1, L1⟩ := V1'
      obtain ⟨ra2, wa2, A2, hw2, L2⟩ := V2'
      have hr1 := L1.ra
      have hr2 := L2.ra
      one_sign
      refine z_ixT hw1 rfl ?_
      one_sign
      rw [List.length_map]
      refine z_ixT hw2 rfl ?_
      one_sign
      refine z_newL (by show 2 ≤ sizeLine; decide) fun nt H2 hnt f2 nt2 => ?_
      have c2 := f2.g0 c1'
      one_sign
      rw [hAl]
      rw [show x / 8 % (ps.length : Int) = ((x / 8 % (ps.length : Int)).toNat : Int) by omega]
      refine z_setL c2 (ixN_nat (by omega)) fun H4 f4 c4 n4 => ?_
      rw [← List.map_set] at c4
      have tp4 := tp1 c2 f4
      one_sign
      refine z_newL (by show 2 ≤ sizeLine; decide) fun t H3 ht f3 t3 => ?_
      exact done _ _ H4 c4 (((hA1.keep f2).tp tp4).set _ (p := (_, _)) (tp4 _ _ nt2)) (by rw [List.length_set]; omega) ((f1.trans f2).in f4 hca) t H3 f3 t3
  · one_sign
    refine ifF (by decide) ?_
    one_sign
    refine ifF (by decide) ?_
    one_sign
    refine ifT (by decide) ?_
    one_sign
    rw [hAl]
    refine iteD (fun h1 => ?_) (fun h1 => ?_)
    · have h1 : 1 < (ps.length : Int) := h1
      one_sign
      rw [hAl]
      have g1 := Int.emod_nonneg (x / 8) (by omega : ((ps.length : Int) - 1) ≠ 0)
      have g2 := Int.emod_lt_of_pos (x / 8) (by omega : (0 : Int) < (ps.length : Int) - 1)
      generalize hat : x / 8 % ((ps.length : Int) - 1) = at' at g1 g2
      obtain ⟨i, rfl⟩ : ∃ i : Nat, at' = (i : Int) := ⟨at'.toNat, by omega⟩
      obtain ⟨a, ha⟩ : ∃ a, As[i]? = some a := ⟨_, List.getElem?_eq_getElem (by rw [hA.1]; omega)⟩
      obtain ⟨b, hb⟩ : ∃ a, As[i + 1]? = some a := ⟨_, List.getElem?_eq_getElem (by rw [hA.1]; omega)⟩
      obtain ⟨p, hp⟩ : ∃ a, ps[i]? = some a := ⟨_, List.getElem?_eq_getElem (by omega)⟩
      obtain ⟨q, hq⟩ : ∃ a, ps[i + 1]? = some a := ⟨_, List.getElem?_eq_getElem (by omega)⟩
      have ta := hA1.2 i a p ha hp
      have tb := hA1.2 (i + 1) b q hb hq
      refine z_ixL c1' (atI_nat (ref_at ha)) ?_
      one_sign
      refine z_ixT ta rfl ?_
      one_sign
      refine z_ixL c1' (atI_nat (ref_at ha)) ?_
      one_sign
      refine z_ixT ta rfl ?_
      one_sign
      refine z_ixL c1' (by rw [show (i : Int) + 1 = ((i + 1 : Nat) : Int) by omega]; exact atI_nat (ref_at hb)) ?_
      one_sign
      refine z_ixT tb rfl ?_
      one_sign
      refine z_newL (by show 2 ≤ sizeLine; decide) fun nt H2 hnt f2 nt2 => ?_
      have c2 := f2.g0 c1'
      one_sign
      refine z_setL c2 (ixN_nat (by omega)) fun H4 f4 c4 n4 => ?_
      rw [← List.map_set] at c4
      have tp4 := tp1 c2 f4
      have P4 := ((hA1.keep f2).tp tp4).set i (a := nt) (p := (p.1, q.2)) (tp4 _ _ nt2)
      have hb4 : (As.set i nt)[i + 1]? = some b := by rw [List.getElem?_set, if_neg (by omega)]; exact hb
      have tb4 := tp4 _ _ (f2.g0 tb)
      one_sign
      refine z_ixL c4 (by rw [show (i : Int) + 1 = ((i + 1 : Nat) : Int) by omega]; exact atI_nat (ref_at hb4)) ?_
      one_sign
      refine z_ixT tb4 rfl ?_
      one_sign
      refine z_newL (by show 2 ≤ sizeLine; decide) fun mt H5 hmt f5 mt5 => ?_
      have c5 := f5.g0 c4
      one_sign
      rw [show (i : Int) + 1 = ((i + 1 : Nat) : Int) by omega]
      refine z_setL c5 (ixN_nat (by rw [List.length_map, List.length_set, hA.1]; omega)) fun H6 f6 c6 n6 => ?_
      rw [← List.map_set] at c6
      have tp6 := tp1 c5 f6
      one_sign
      refine z_newL (by show 2 ≤ sizeLine; decide) fun t H3 ht f3 t3 => ?_
      exact done _ _ H6 c6 (((P4.keep f5).tp tp6).set (i + 1) (a := mt) (p := (q.1, p.2)) (tp6 _ _ mt5)) (by rw [List.length_set, List.length_set]; omega) ((((f1.trans f2).in f4 hca).trans f5).in f6 hca) t H3 f3 t3
    · one_sign
      refine z_newL (by show 2 ≤ sizeLine; decide) fun t H3 ht f3 t3 => ?_
      exact done _ ps H1 c1' hA1 (by omega) f1 t H3 f3 t3
end

end LX
namespace LX
open PySem PySem.Spec PyProof.Rows L2 NdefX
set_option hygiene false in
local macro_rules | `(tactic| k_memK) => `(tactic| first | exact W.na_Comparison_one | exact W.na_Comparison_other | exact W.na_Comparison_there | exact W.na_Comparison_back | exact W.na_Comparison_first | exact W.na_Store_room | exact W.na_Store_entries | exact W.na_Store_words | exact W.na_Store__places | exact W.na_Store__least | exact W.na_Space_store | exact W.na_Space_pressure | exact W.na_Space_always | exact W.na_Space_allocations | exact W.na_Space_collections | exact W.na_Space__roots | exact W.na_Space__held | exact W.na_Space__saved)
set_option hygiene false in
local macro_rules | `(tactic| k_ownIn) => `(tactic| first | exact W.C_Comparison | exact W.C_Store | exact W.C_Space)
local macro_rules | `(tactic| none_booked) => `(tactic| first | assumption | (refine Fr.g0 (by assumption) ?_; none_booked))
local macro_rules | `(tactic| one_sign) => `(tactic| repeat (first
  | refine Stp.h ?_
  | ((with_reducible refine' z_fld1 ?k0 ?k1 ?k2 ?k3 ?_); (case k0 => none_booked); (case k1 => k_ownIn); (case k2 => k_memK); (case k3 => rfl))
  | ((with_reducible refine' z_meth1 ?k0 ?k1 ?_); (case k0 => none_booked); (case k1 => rfl))
  | ((with_reducible refine' z_bmL ?k0 ?_); (case k0 => none_booked))
  | ((with_reducible refine' z_lenL ?k0 ?_); (case k0 => none_booked))
  | ((with_reducible refine' z_lenT ?k0 ?_); (case k0 => none_booked))
  | ((with_reducible refine' z_lenD ?k0 ?_); (case k0 => none_booked))
  | ((with_reducible refine' z_truL ?k0 ?_); (case k0 => none_booked))
  | ((with_reducible refine' z_truD ?k0 ?_); (case k0 => none_booked))
  | ((with_reducible refine' z_truT ?k0 ?_); (case k0 => none_booked))
  | ((with_reducible refine' z_inDIP ?k0 ?_); (case k0 => none_booked))
  | ((with_reducible refine' z_inDIN ?k0 ?_); (case k0 => none_booked))
  | ((with_reducible refine' z_inDfP ?k0 ?_); (case k0 => none_booked))
  | ((with_reducible refine' z_inDfN ?k0 ?_); (case k0 => none_booked))
  | ((with_reducible refine' z_iList1 ?k0 ?_); (case k0 => none_booked))
  | ((with_reducible refine' z_isi0 ?k0 ?k1 ?k2 ?_); (case k0 => exact (ClsV.ty _)); (case k1 => exact (TyX.base (TyOf.lst (by none_booked)))); (case k2 => first | exact kt_list_int | exact kt_list_bool | exact kt_list_str | exact kt_list_list | exact kt_list_tuple | exact kt_list_dict))
  | ((with_reducible refine' z_rI ?k0 ?_); (case k0 => first | exact (by decide : (0 : Int) < _) | exact ⟨by decide, by decide⟩ | exact ⟨by decide, by decide, by decide⟩ | (show (0 : Int) < _; omega)))
  | ((with_reducible refine' z_mulI ?k0 ?_); (case k0 => first | exact Or.inr ⟨by decide, by decide⟩ | exact Or.inl ⟨by decide, by decide⟩ | exact Or.inl ⟨by omega, by omega⟩ | exact Or.inr ⟨by omega, by omega⟩))))
local macro_rules | `(tactic| leaf_len) => `(tactic| (simp only [wipe, List.map_cons, List.map_nil, List.set_cons_zero, List.set_cons_succ]; one_sign; refine z_ok rfl ?_; one_sign))

theorem Rw0.lr' {H : Hp} {ra wa : Addr} {A : List Addr} {R : List (List Int)} {ws : List Int} (h : Rw0 H ra wa A R ws) : LR H ra wa A R ws := ⟨h.ra, h.rows, h.wa, h.eR, h.eW, h.lR, fun r hr => by have := h.lr r hr; omega, by have := h.lw; omega⟩
section
variable {P : Program} {w : World} {K : PySem.W.Frag} {mg : Str → Option Value} {base : Heap}
def sp_built : Sp := fun vs H Q _ => ∃ ca, ∃ cs : List Int, vs = [.ref ca] ∧ H ca = some (.lst (cs.map V.int)) ∧ 4 ≤ cs.length ∧
  ∀ t o1 o2 oa R1 R2 ws1 ws2 (Os : List Int) H', H' t = some (.tup [.ref o1, .ref o2, .ref oa]) → WL H' o1 R1 ws1 → WL H' o2 R2 ws2 → H' oa = some (.lst (Os.map V.int)) → Os.length ≤ 59 → Fr [] H H' → Q (.ref t) H'
theorem ok__law_built (W : WT P K mg base) : FnOk P w K mg base CX0 3 W.f__law_built W.fd__law_built ["_law_cells"] sp_built := by
  refine W.F__law_built.ok sc__law_built (fun vs H Q E h => by obtain ⟨ca, cs, rfl, hca, hc4, k⟩ := h; rfl) (fun cdv A outer s H vs Q E hr h => ?_)
  obtain ⟨ca, cs, rfl, hca, hc4, k⟩ := h
  have hu1 := hu_of hr
  have hu64 := hu64_of hr
  refine ⟨_, (pss_cons (ps_set (i := 1) sc__law_built.nd rfl (by first | exact Or.inl rfl | exact Or.inr rfl) (pe_call (ok__law_rows W) (hr.mono (by decide)) rfl W.g__law_rows W.F__law_rows.kp W.b__law_rows .nil pass0 (pa_cons (pe_call (ok__law_sizes W) (hr.mono (by decide)) rfl W.g__law_sizes W.F__law_sizes.kp W.b__law_sizes .nil pass0 (pa_cons (pe_call (ok__law_number W) (hr.mono (by decide)) rfl W.g__law_number W.F__law_number.kp W.b__law_number .nil pass0 (pa_cons (pe_ix (ix_U hu1) (pv 0) pe_int (fun _ _ => rfl)) (pa_cons pe_int pa_nil))) pa_nil)) (pa_cons (pe_ix (ix_U hu1) (pv 0) pe_int (fun _ _ => rfl)) pa_nil))))
      (pss_cons (ps_set (i := 2) sc__law_built.nd rfl (by first | exact Or.inl rfl | exact Or.inr rfl) (pe_callB call_lenU (by rfl) W.n_len bb_len (pa_cons (pv 1) pa_nil)))
      (pss_cons (ps_setLc (i := 1) (own := [("_law_row", 3)]) (g := gName 3) (tt := tYes) rfl sc__law_built.nd rfl rfl (sw_true rfl rfl rfl (by decide +kernel)) (pi_list (pv 1)) (blkOk_by (N := N__law_built) (sc := defScope s__law_built) (by first | decide +kernel | rfl)) (fun _ _ _ _ _ => (pg_name (i := 3) sc__law_built.nd rfl (by first | exact Or.inl rfl | exact Or.inr rfl))) (fun _ _ _ _ _ => pts_nil) (fun _ _ _ _ _ => (pe_lc (own := [("_law_word_here", 4)]) (g := gName 4) (tt := tYes) rfl sc__law_built.nd (pi_listK (K := K) rfl (pv 3)) (blkOk_by (N := N__law_built) (sc := _) (by first | decide +kernel | rfl)) (fun _ _ _ _ _ => (pg_name (i := 4) sc__law_built.nd rfl (by first | exact Or.inl rfl | exact Or.inr rfl))) (fun _ _ _ _ _ => pts_nil) (fun _ _ _ _ _ => (pe_ifExp (PW.pt (pw_or (pt_cmpR (op_eqUK (K := K) rfl (by exact (by exact hu64))) (pe_op op_mod (pe_callTy call_intU (by rfl) W.n_int bb_int (pa_cons (pv 4) pa_nil)) pe_int) pe_int (by first | exact nomark _ | rfl)) (pw_or1 (pt_cmpR op_ltU (pe_op op_fdivW (pv 4) pe_int) (pv 2) (by first | exact nomark _ | rfl))))) (pv 4) pe_int)))))
      (pss_cons (ps_setLc (i := 5) (own := [("_law_word_here", 4)]) (g := gName 4) (tt := tYes) rfl sc__law_built.nd rfl rfl (sw_true rfl rfl rfl (by decide +kernel)) (pi_list (pe_call (ok__law_roots W) (hr.mono (by decide)) rfl W.g__law_roots W.F__law_roots.kp W.b__law_roots .nil pass0 (pa_cons (pv 2) (pa_cons (pe_ix (ix_U hu1) (pv 0) pe_int (fun _ _ => rfl)) pa_nil)))) (blkOk_by (N := N__law_built) (sc := defScope s__law_built) (by first | decide +kernel | rfl)) (fun _ _ _ _ _ => (pg_name (i := 4) sc__law_built.nd rfl (by first | exact Or.inl rfl | exact Or.inr rfl))) (fun _ _ _ _ _ => pts_nil) (fun _ _ _ _ _ => (pe_ifExp (PW.pt (pw_or (pt_cmpR (op_eqUK (K := K) rfl (by exact hu64)) (pe_op op_mod (pe_callTy call_intU (by rfl) W.n_int bb_int (pa_cons (pv 4) pa_nil)) pe_int) pe_int (by first | exact nomark _ | rfl)) (pw_or1 (pt_cmpR op_ltU (pe_op op_fdivW (pv 4) pe_int) (pv 2) (by first | exact nomark _ | rfl))))) (pv 4) pe_int)))
      (pss_cons (ps_set (i := 6) sc__law_built.nd rfl (by first | exact Or.inl rfl | exact Or.inr rfl) (pe_call (ok__law_order W) (hr.mono (by decide)) rfl W.g__law_order W.F__law_order.kp W.b__law_order .nil pass0 (pa_cons (pv 2) (pa_cons (pe_ix (ix_U hu1) (pv 0) pe_int (fun _ _ => rfl)) pa_nil))))
      (pss_cons (ps_set (i := 7) sc__law_built.nd rfl (by first | exact Or.inl rfl | exact Or.inr rfl) (pe_call (ok__law_twin W) (hr.mono (by decide)) rfl W.g__law_twin W.F__law_twin.kp W.b__law_twin .nil pass0 (pa_cons (pv 1) (pa_cons (pv 5) (pa_cons (pv 6) pa_nil)))))
      (pss_cons (ps_set (i := 8) sc__law_built.nd rfl (by first | exact Or.inl rfl | exact Or.inr rfl) (pe_call (ok__law_number W) (hr.mono (by decide)) rfl W.g__law_number W.F__law_number.kp W.b__law_number .nil pass0 (pa_cons (pe_op op_addU (pe_ix (ix_U hu1) (pv 0) pe_int (fun _ _ => rfl)) pe_int) (pa_cons pe_int pa_nil))))
      (pss_cons (ps_for PassesOwn.never rfl (pi_range1 (by rfl) W.n_range (pa_cons (pe_op op_mod (pe_callTy call_intU (by rfl) W.n_int bb_int (pa_cons (pv 8) pa_nil)) pe_int) pa_nil)) (pg_name (i := 9) sc__law_built.nd rfl (by first | exact Or.inl rfl | exact Or.inr rfl)) (pss_one (ps_expr (pe_call (ok__law_change W) (hr.mono (by decide)) rfl W.g__law_change W.F__law_change.kp W.b__law_change .nil pass0 (pa_cons (pe_ix (ix_U hu1) (pv 7) pe_int (fun _ _ => rfl)) (pa_cons (pe_ix (ix_U hu1) (pv 7) pe_int (fun _ _ => rfl)) (pa_cons (pe_call (ok__law_number W) (hr.mono (by decide)) rfl W.g__law_number W.F__law_number.kp W.b__law_number .nil pass0 (pa_cons (pe_op op_addU (pe_op op_fdivW (pv 8) pe_int) (pe_op op_mulU (pv 9) pe_int)) (pa_cons (pv 9) pa_nil))) pa_nil)))))))
      (pss_one (ps_ret (pe_tup (pa_cons (pe_tup (pa_cons (pv 1) (pa_cons (pv 5) pa_nil))) (pa_cons (pv 7) (pa_cons (pv 6) pa_nil)))))))))))))), ?_⟩
  refine z_start (σ := [some _, none, none, none, none, none, none, none, none, none]) rfl ?_
  one_sign
  obtain ⟨c0, hc0⟩ : ∃ c, cs[0]? = some c := ⟨_, List.getElem?_eq_getElem (by omega)⟩
  obtain ⟨c1, hc1⟩ : ∃ c, cs[1]? = some c := ⟨_, List.getElem?_eq_getElem (by omega)⟩
  obtain ⟨c2, hc2⟩ : ∃ c, cs[2]? = some c := ⟨_, List.getElem?_eq_getElem (by omega)⟩
  obtain ⟨c3, hc3⟩ : ∃ c, cs[3]? = some c := ⟨_, List.getElem?_eq_getElem (by omega)⟩
  refine z_ixL hca (atI_nat (j := 0) (int_at hc0)) ?_
  one_sign
  refine ⟨_, _, rfl, by omega, by omega, fun r hr0 => ?_⟩
  one_sign
  refine ⟨_, rfl, fun sa zs H1 hzl hz s1 hsa f1 => ?_⟩
  one_sign
  refine z_ixL (f1.g0 hca) (atI_nat (j := 1) (int_at hc1)) ?_
  one_sign
  refine ⟨sa, zs, c1, rfl, s1, hzl, hz, fun ra A R H2 hra L hlen hE hran f2 => ?_⟩
  have f12 := f1.trans f2
  have hRl : R.length ≤ 59 := by have := congrArg List.length hlen; rw [List.length_map, List.length_map] at this; omega
  have hlr : ∀ r ∈ R, 1 ≤ r.length ∧ r.length ≤ 20 := fun r hr => by
    have : r.length ∈ R.map (·.length) := List.mem_map_of_mem hr
    rw [hlen] at this
    obtain ⟨z, hzm, e⟩ := List.mem_map.mp this
    have := hz z hzm
    omega
  one_sign
  rw [List.length_map, L.len]
  refine z_lcL hra (fun i xs H' => ∃ A' R', Mk H H' i xs A' R') (fun _ _ _ _ => ⟨[], [], Mk.nil _ _⟩) (fun Rr i x xs H3 hRr hx hil hxl hP hX f3 => ?_) (fun q xs H3 hq hP hxl hX f3 => ?_)
  · obtain ⟨A', R', M⟩ := hP
    rw [List.getElem?_map] at hx
    obtain ⟨a, ha, rfl⟩ := Option.map_eq_some_iff.mp hx
    rw [List.length_map, L.len] at hil
    obtain ⟨row, hrow⟩ : ∃ a, R[i]? = some a := ⟨_, List.getElem?_eq_getElem hil⟩
    have hr1 := f3.g0 (L.it _ _ _ ha hrow)
    have hrl := hlr _ (List.mem_of_getElem? hrow)
    have her := hE _ (List.mem_of_getElem? hrow)
    leaf_len
    refine z_lcL hr1 (fun i xs H' => ∃ rs : List Int, xs = rs.map V.int ∧ rs.length = i ∧ ∀ x ∈ rs, Evn x) (fun _ _ _ _ => ⟨[], rfl, rfl, fun x h => (by cases h)⟩) (fun R2 i2 x2 xs2 H4 hR2 hx2 hi2 hxl2 hP2 hX2 f4 => ?_) (fun q2 xs2 H4 hq2 hP2 hxl2 hX2 f4 => ?_)
    · obtain ⟨rs, rfl, hrs, hE2⟩ := hP2
      rw [List.getElem?_map] at hx2
      obtain ⟨v, hv, rfl⟩ := Option.map_eq_some_iff.mp hx2
      have ev := her v (List.mem_of_getElem? hv)
      have fin : ∀ r : Int, Evn r → LcY H3 R2 (fun i xs H' => ∃ rs : List Int, xs = rs.map V.int ∧ rs.length = i ∧ ∀ x ∈ rs, Evn x) (i2 + 1) (.int r) H4 := fun r hr => by
        refine z_lcY hR2 hX2 f4 hxl2 (by rw [List.length_map] at hi2; rw [sizeLine_eq]; omega) fun H5 _ _ _ => ?_
        refine ⟨rs ++ [r], by rw [List.map_append]; rfl, by rw [List.length_append, hrs]; rfl, fun x hx => ?_⟩
        rcases List.mem_append.mp hx with h | h
        · exact hE2 x h
        · rw [List.mem_singleton.mp h]; exact hr
      leaf_len
      refine iteD (fun h => ?_) (fun h => ?_)
      · one_sign
        exact fin v ev
      · one_sign
        refine iteD (fun h2 => ?_) (fun h2 => ?_)
        · one_sign
          exact fin v ev
        · one_sign
          exact fin 0 (fun _ => Int.le_refl 0)
    · obtain ⟨rs, rfl, hrs, hE2⟩ := hP2
      rw [List.length_map] at hrs
      have f34 := f3.trans f4
      refine z_lcY hRr (f4.g0 hX) f34 hxl (by rw [sizeLine_eq]; omega) fun H5 f5 f05 n5 => ?_
      have nq : q2 ≠ Rr := fun z => by rw [z, hX] at hq2; cases hq2
      refine ⟨A' ++ [q2], R' ++ [rs], M.snoc Rr (fun b hb z => ?_) (fun b o e n => f5 b o (f4.g0 e) n) ((f12.trans f3).none hq2) (f5.g hX2 (nin nq)) hq2 hE2 ⟨by omega, by omega⟩⟩
      rw [z] at hb
      obtain ⟨r', hr'⟩ := M.live hb
      rw [hX, M.e] at hr'
      exact rf_ne hb (HO.lst.inj (Option.some.inj hr'))
  obtain ⟨A', R', M⟩ := hP
  rw [List.length_map, L.len] at M
  have hM := M.rows.len
  have hMl := M.la
  have f03 := f12.trans f3
  one_sign
  refine z_ixL (f03.g0 hca) (atI_nat (j := 2) (int_at hc2)) ?_
  one_sign
  refine ⟨R.length, c2, rfl, by omega, fun qw ws H4 hqw h16 h20 hEw hqn f4 => ?_⟩
  have f04 := f03.trans f4
  one_sign
  refine z_lcL hqw (fun i xs H' => ∃ rs : List Int, xs = rs.map V.int ∧ rs.length = i ∧ ∀ x ∈ rs, Evn x) (fun _ _ _ _ => ⟨[], rfl, rfl, fun x h => (by cases h)⟩) (fun R2 i2 x2 xs2 H5 hR2 hx2 hi2 hxl2 hP2 hX2 f5 => ?_) (fun q2 xs2 H5 hq2 hP2 hxl2 hX2 f5 => ?_)
  · obtain ⟨rs, rfl, hrs, hE2⟩ := hP2
    rw [List.getElem?_map] at hx2
    obtain ⟨v, hv, rfl⟩ := Option.map_eq_some_iff.mp hx2
    have ev := hEw v (List.mem_of_getElem? hv)
    have fin : ∀ r : Int, Evn r → LcY H4 R2 (fun i xs H' => ∃ rs : List Int, xs = rs.map V.int ∧ rs.length = i ∧ ∀ x ∈ rs, Evn x) (i2 + 1) (.int r) H5 := fun r hr => by
      refine z_lcY hR2 hX2 f5 hxl2 (by rw [List.length_map] at hi2; rw [sizeLine_eq]; omega) fun H6 _ _ _ => ?_
      refine ⟨rs ++ [r], by rw [List.map_append]; rfl, by rw [List.length_append, hrs]; rfl, fun x hx => ?_⟩
      rcases List.mem_append.mp hx with h | h
      · exact hE2 x h
      · rw [List.mem_singleton.mp h]; exact hr
    leaf_len
    refine iteD (fun h => ?_) (fun h => ?_)
    · one_sign
      exact fin v ev
    · one_sign
      refine iteD (fun h2 => ?_) (fun h2 => ?_)
      · one_sign
        exact fin v ev
      · one_sign
        exact fin 0 (fun _ => Int.le_refl 0)
  obtain ⟨rs, rfl, hrs, hE2⟩ := hP2
  rw [List.length_map] at hrs
  have f05 := f04.trans f5
  have f35 := f4.trans f5
  have W0 : Rw0 H5 q q2 A' R' rs := ⟨f35.g0 (by rw [hX, M.e]), M.rows.mono f35, hX2, M.eR, hE2, by omega, M.lr, by omega⟩
  one_sign
  refine z_ixL (f05.g0 hca) (atI_nat (j := 3) (int_at hc3)) ?_
  one_sign
  refine ⟨R.length, c3, rfl, hRl, fun oa Os H6 hoan hoa O f6 => ?_⟩
  have f06 := f05.trans f6
  one_sign
  refine ⟨q, q2, oa, A', R', rs, Os, rfl, W0.keep f6, hoa, by rw [show R'.length = R.length by omega]; exact O, fun t ra2 wa2 A2 R2 ws2 H7 t7 T hRR f7 => ?_⟩
  have f07 := f06.trans f7
  one_sign
  refine z_ixL (f07.g0 hca) (atI_nat (j := 3) (int_at hc3)) ?_
  one_sign
  refine ⟨_, _, rfl, by omega, by omega, fun x hx0 => ?_⟩
  have e1 := Int.emod_nonneg x (by decide : (4 : Int) ≠ 0)
  have e2 := Int.emod_lt_of_pos x (by decide : (0 : Int) < 4)
  one_sign
  refine z_rng1 (x % 4).toNat (by omega) (by omega) ?_
  refine for_range (lo := 0) (n := (x % 4).toNat) (fun j σ H' => ∃ (R2 : List (List Int)) (ws2 : List Int) (v9 : Option V), σ = [some (.ref ca), some (.ref q), some (.int R.length), none, none, some (.ref q2), some (.ref oa), some (.ref t), some (.int x), v9] ∧ Tw H6 H' ra2 wa2 A2 R2 ws2 j ∧ H' t = some (.tup [.ref ra2, .ref wa2]) ∧ Fr [] H6 H')
    ⟨R2, ws2, _, rfl, T, t7, f7⟩ (fun j σ H8 hj hI => ?_) (fun σ H8 hI => ?_)
  · obtain ⟨R2, ws2, v9, rfl, T8, t8, f8⟩ := hI
    one_sign
    refine z_ixT t8 rfl ?_
    one_sign
    refine z_ixT t8 rfl ?_
    one_sign
    refine ⟨_, _, rfl, by omega, by omega, fun y hy0 => ?_⟩
    one_sign
    refine ⟨ra2, wa2, A2, R2, ws2, j, H6, y, rfl, T8, by omega, f8, fun R3 ws3 H9 T9 _ f9 tp9 => ?_⟩
    one_sign
    exact ⟨R3, ws3, _, rfl, T9, tp9 _ _ t8, f9⟩
  · obtain ⟨R2, ws2, v9, rfl, T8, t8, f8⟩ := hI
    one_sign
    refine z_newL (by show 2 ≤ sizeLine; decide) fun o1 H9 ho1 f9 o19 => ?_
    one_sign
    refine z_newL (by show 3 ≤ sizeLine; decide) fun tt H10 htt f10 tt10 => ?_
    have f69 := (f8.trans f9).trans f10
    exact k tt o1 t oa R' R2 rs ws2 Os H10 tt10 ⟨q, q2, A', f10.g0 o19, (W0.lr'.keep f6).keep f69⟩ ⟨ra2, wa2, A2, f10.g0 (f9.g0 t8), (T8.lr' (by omega)).keep (f9.trans f10)⟩ (f69.g0 hoa) (by rw [O.len]; exact hRl) (f06.trans f69)
end

end LX
namespace LX
open PySem PySem.Spec PyProof.Rows L2 NdefX
theorem qs_b {R1 R2 : List (List Int)} {r1 r2 : List Int} {Vv : Vd} (hb : ∀ r ∈ R1, r.length ≤ 26) (hl : r1.length = r2.length) (hR : R1.length ≤ 59) : ∀ (k : Nat) (F : List CFd) (W : List QIt), mu R1 F W ≤ k → QS R1 R2 r1 r2 Vv F W → (∀ f ∈ F, f.2.2.length ≤ 1000) → VdB Vv
  | _, F, [], _, q, _ => by
    rw [QS.nil q]
    show (prs F).length ≤ 1000
    have := q.I.len
    unfold prs
    rw [List.length_map]
    omega
  | 0, F, x :: W, hm, _, _ => by rw [mu_cons] at hm; omega
  | k + 1, F, x :: W, hm, q, hF => by
    have hx := q.l x List.mem_cons_self
    have hFl := q.I.len
    have hx : x.1.length ≤ 1000 := by omega
    cases e : stepQ R1 R2 F x with
    | inl v =>
      rw [← q.inl e]
      unfold stepQ at e
      cases e1 : objN R1 x.2.1 with
      | none => cases e2 : objN R2 x.2.2 with
        | none =>
          simp only [e1, e2] at e
          by_cases hxy : x.2.1 = x.2.2
          · rw [if_pos hxy] at e; cases e
          · rw [if_neg hxy] at e; cases e; exact hx
        | some m => simp only [e1, e2] at e; cases e; exact hx
      | some n => cases e2 : objN R2 x.2.2 with
        | none => simp only [e1, e2] at e; cases e; exact hx
        | some m =>
          simp only [e1, e2] at e
          cases ec : clashQ R1 R2 F n m x.1 with
          | none =>
            simp only [ec] at e
            by_cases hs : (lookN F n).isSome = true
            · rw [if_pos hs] at e; cases e
            · rw [if_neg hs] at e; cases e
          | some v' =>
            simp only [ec] at e
            cases e
            unfold clashQ at ec
            cases el : lookN F n with
            | some f =>
              have hf := hF f (lookN_some el).1
              rw [el] at ec
              simp only [Option.bind_some] at ec
              by_cases h1 : f.2.1 = m
              · rw [if_pos h1] at ec
                cases em : lookM F m with
                | some f' =>
                  have hf' := hF f' (lookM_some em).1
                  rw [em] at ec
                  simp only [Option.bind_some] at ec
                  by_cases h2 : f'.1 = n
                  · rw [if_pos h2] at ec
                    by_cases h3 : (rowN R1 n).length = (rowN R2 m).length
                    · simp only [if_pos h3] at ec; cases ec
                    · simp only [if_neg h3] at ec; cases ec; exact hx
                  · rw [if_neg h2] at ec; cases ec; exact ⟨hf', hx⟩
                | none =>
                  rw [em] at ec
                  simp only [Option.bind_none] at ec
                  by_cases h3 : (rowN R1 n).length = (rowN R2 m).length
                  · simp only [if_pos h3] at ec; cases ec
                  · simp only [if_neg h3] at ec; cases ec; exact hx
              · rw [if_neg h1] at ec; cases ec; exact ⟨hf, hx⟩
            | none =>
              rw [el] at ec
              simp only [Option.bind_none] at ec
              cases em : lookM F m with
              | some f' =>
                have hf' := hF f' (lookM_some em).1
                rw [em] at ec
                simp only [Option.bind_some] at ec
                by_cases h2 : f'.1 = n
                · rw [if_pos h2] at ec
                  by_cases h3 : (rowN R1 n).length = (rowN R2 m).length
                  · simp only [if_pos h3] at ec; cases ec
                  · simp only [if_neg h3] at ec; cases ec; exact hx
                · rw [if_neg h2] at ec; cases ec; exact ⟨hf', hx⟩
              | none =>
                rw [em] at ec
                simp only [Option.bind_none] at ec
                by_cases h3 : (rowN R1 n).length = (rowN R2 m).length
                · simp only [if_pos h3] at ec; cases ec
                · simp only [if_neg h3] at ec; cases ec; exact hx
    | inr z =>
      obtain ⟨F', more⟩ := z
      obtain ⟨q', hm', -⟩ := q.inr hb hl e
      refine qs_b hb hl hR k F' (W ++ more) (by omega) q' fun f hf => ?_
      unfold stepQ at e
      cases e1 : objN R1 x.2.1 with
      | none => cases e2 : objN R2 x.2.2 with
        | none =>
          simp only [e1, e2] at e
          by_cases hxy : x.2.1 = x.2.2
          · rw [if_pos hxy] at e; cases e; exact hF f hf
          · rw [if_neg hxy] at e; cases e
        | some m => simp only [e1, e2] at e; cases e
      | some n => cases e2 : objN R2 x.2.2 with
        | none => simp only [e1, e2] at e; cases e
        | some m =>
          simp only [e1, e2] at e
          cases ec : clashQ R1 R2 F n m x.1 with
          | some v => simp only [ec] at e; cases e
          | none =>
            simp only [ec] at e
            by_cases hs : (lookN F n).isSome = true
            · rw [if_pos hs] at e; cases e; exact hF f hf
            · rw [if_neg hs] at e
              cases e
              rcases List.mem_append.mp hf with h | h
              · exact hF f h
              · rw [List.mem_singleton.mp h]; exact hx
theorem vdt_b {R1 R2 : List (List Int)} {r1 r2 : List Int} (hb : ∀ r ∈ R1, r.length ≤ 26) (hR : R1.length ≤ 59) : VdB (vdt R1 R2 r1 r2) := by
  by_cases hl : r1.length = r2.length
  · exact qs_b hb hl hR _ [] _ (Nat.le_refl _) (QS.start hl) (by simp)
  · unfold vdt; rw [if_neg hl]; trivial
theorem ei_ints {H : Hp} (d : Nat) {p : List Int} {i : Nat} {x y : V} (h1 : (p.map V.int)[i]? = some x) (h2 : (p.map V.int)[i]? = some y) : EI d H x y := by
  rw [h1] at h2
  cases h2
  rw [List.getElem?_map] at h1
  obtain ⟨n, -, rfl⟩ := Option.map_eq_some_iff.mp h1
  cases d with
  | zero => exact .inl ⟨n, rfl, rfl⟩
  | succ d => exact .inl (.inl ⟨n, rfl, rfl⟩)
theorem ei_path {H : Hp} {a b : Addr} {p : List Int} (h1 : H a = some (.tup (p.map V.int))) (h2 : H b = some (.tup (p.map V.int))) (hl : p.length ≤ 1000) : EI 2 H (.ref a) (.ref b) :=
  .inr ⟨a, b, _, _, rfl, rfl, .inl ⟨h1, h2⟩, rfl, by rw [List.length_map]; exact hl, fun i x y e1 e2 => ei_ints 1 e1 e2⟩
theorem ei_prs {H : Hp} {l m : Addr} {A B : List Addr} {ps : List (Int × Int)} (h1 : H l = some (.lst (A.map V.ref))) (h2 : H m = some (.lst (B.map V.ref))) (hA : PrsAt H A ps) (hB : PrsAt H B ps) (hl : ps.length ≤ 1000) : EI 2 H (.ref l) (.ref m) := by
  refine .inr ⟨l, m, _, _, rfl, rfl, .inr ⟨h1, h2⟩, by rw [List.length_map, List.length_map, hA.1, hB.1], by rw [List.length_map, hA.1]; exact hl, fun i x y e1 e2 => ?_⟩
  rw [List.getElem?_map] at e1 e2
  obtain ⟨a, ha, rfl⟩ := Option.map_eq_some_iff.mp e1
  obtain ⟨b, hb, rfl⟩ := Option.map_eq_some_iff.mp e2
  obtain ⟨p, hp⟩ : ∃ p, ps[i]? = some p := ⟨_, List.getElem?_eq_getElem (by rw [← hA.1]; exact (List.getElem?_eq_some_iff.mp ha).1)⟩
  exact .inr ⟨a, b, _, _, rfl, rfl, .inl ⟨hA.2 i a p ha hp, hB.2 i b p hb hp⟩, rfl, by show 2 ≤ 1000; decide, fun j x y e1 e2 => ei_ints 0 (p := [p.1, p.2]) e1 e2⟩
theorem ei_str {H : Hp} {z : Str} (h : z.length ≤ 10) : EI 2 H (.str z) (.str z) := .inl (.inr ⟨z, rfl, rfl, h⟩)
theorem ei_cons {H : Hp} {x y : V} {us vs : List V} (h : EI 2 H x y) (hr : ∀ (i : Nat) x y, us[i]? = some x → vs[i]? = some y → EI 2 H x y) : ∀ (i : Nat) x' y', (x :: us)[i]? = some x' → (y :: vs)[i]? = some y' → EI 2 H x' y'
  | 0, _, _, e1, e2 => by cases e1; cases e2; exact h
  | i + 1, _, _, e1, e2 => hr i _ _ e1 e2
theorem ei_nil {H : Hp} : ∀ (i : Nat) x y, ([] : List V)[i]? = some x → ([] : List V)[i]? = some y → EI 2 H x y := fun i x y e => by cases e
theorem ti_of {H : Hp} {a b : Addr} {v : Vd} (h1 : VdAt H a v) (h2 : VdAt H b v) (hb : VdB v) : ∃ us ws, H a = some (.tup us) ∧ H b = some (.tup ws) ∧ us.length = ws.length ∧ us.length ≤ 1000 ∧ ∀ (i : Nat) x y, us[i]? = some x → ws[i]? = some y → EI 2 H x y := by
  cases v with
  | held => exact ⟨_, _, h1, h2, rfl, by show 1 ≤ 1000; decide, ei_cons (ei_str (by decide)) ei_nil⟩
  | word p =>
    obtain ⟨pa, e1, e2⟩ := h1
    obtain ⟨pb, e3, e4⟩ := h2
    exact ⟨_, _, e1, e3, rfl, by show 2 ≤ 1000; decide, ei_cons (ei_str (by decide)) (ei_cons (ei_path e2 e4 hb) ei_nil)⟩
  | size p =>
    obtain ⟨pa, e1, e2⟩ := h1
    obtain ⟨pb, e3, e4⟩ := h2
    exact ⟨_, _, e1, e3, rfl, by show 2 ≤ 1000; decide, ei_cons (ei_str (by decide)) (ei_cons (ei_path e2 e4 hb) ei_nil)⟩
  | same p q =>
    obtain ⟨pa, qa, e1, e2, e3⟩ := h1
    obtain ⟨pb, qb, e4, e5, e6⟩ := h2
    exact ⟨_, _, e1, e4, rfl, by show 3 ≤ 1000; decide, ei_cons (ei_str (by decide)) (ei_cons (ei_path e2 e5 hb.1) (ei_cons (ei_path e3 e6 hb.2) ei_nil))⟩
  | alike ps =>
    obtain ⟨l, A, e1, e2, e3⟩ := h1
    obtain ⟨m, B, e4, e5, e6⟩ := h2
    exact ⟨_, _, e1, e4, rfl, by show 2 ≤ 1000; decide, ei_cons (ei_str (by decide)) (ei_cons (ei_prs e2 e5 e3 e6 hb) ei_nil)⟩
def isAl : Vd → Bool
  | .alike _ => true
  | _ => false
def nmV : Vd → Str
  | .held => sHELD
  | .word _ => sWORD
  | .size _ => sSIZE
  | .same _ _ => sSAME
  | .alike _ => sALIKE
theorem vd_head {H : Hp} {a : Addr} {v : Vd} (h : VdAt H a v) : ∃ r, H a = some (.tup (.str (nmV v) :: r)) := by
  cases v with
  | held => exact ⟨_, h⟩
  | word p => obtain ⟨_, e, _⟩ := h; exact ⟨_, e⟩
  | size p => obtain ⟨_, e, _⟩ := h; exact ⟨_, e⟩
  | same p q => obtain ⟨_, _, e, _⟩ := h; exact ⟨_, e⟩
  | alike ps => obtain ⟨_, _, e, _⟩ := h; exact ⟨_, e⟩
theorem nm_al (v : Vd) : decide (nmV v = T [97, 108, 105, 107, 101]) = isAl v := by
  cases v with
  | held => show decide (sHELD = T [97, 108, 105, 107, 101]) = false; decide +kernel
  | word p => show decide (sWORD = T [97, 108, 105, 107, 101]) = false; decide +kernel
  | size p => show decide (sSIZE = T [97, 108, 105, 107, 101]) = false; decide +kernel
  | same p q => show decide (sSAME = T [97, 108, 105, 107, 101]) = false; decide +kernel
  | alike ps => show decide (sALIKE = T [97, 108, 105, 107, 101]) = true; decide +kernel
theorem hp_of {R1 R2 : List (List Int)} {r1 r2 : List Int} {v : Vd} (h : Hold R1 R2 r1 r2 v) (n : isAl v = false) : HoldP R1 R2 r1 r2 v := by
  cases v with
  | alike ps => cases n
  | held => exact h
  | word p => exact h
  | size p => exact h
  | same p q => exact h
theorem hold_clash {R1 R2 : List (List Int)} {r1 r2 : List Int} {v d : Vd} (h : Hold R1 R2 r1 r2 v) (hd : Hold R1 R2 r1 r2 d) (n : isAl v = false) (m : isAl d = true) : False := by
  have hp := hp_of h n
  cases d with
  | alike ps =>
    have hd : PairsP R1 R2 r1 r2 ps := hd
    exact no_both hd hp
  | held => cases m
  | word p => cases m
  | size p => cases m
  | same p q => cases m
theorem hold_al {R1 R2 : List (List Int)} {r1 r2 : List Int} {v : Vd} (hb : ∀ r ∈ R1, r.length ≤ 26) (h : Hold R1 R2 r1 r2 v) : isAl v = isAl (vdt R1 R2 r1 r2) := by
  have hd := vdt_hold (R1 := R1) (R2 := R2) (r1 := r1) (r2 := r2) hb
  cases e1 : isAl v with
  | true => cases e2 : isAl (vdt R1 R2 r1 r2) with
    | true => rfl
    | false => exact (hold_clash hd h e2 e1).elim
  | false => cases e2 : isAl (vdt R1 R2 r1 r2) with
    | false => rfl
    | true => exact (hold_clash h hd e1 e2).elim
theorem VdAt.app {H H' : Hp} {t va b0 la : Addr} {v : Vd} {B : List Addr} (h : VdAt H t v) (hv : H va = some (.lst (B.map V.ref))) (h0 : B[0]? = some b0) (hb : H b0 = some (.tup [.str sALIKE, .ref la])) (f : Fr [va] H H') : VdAt H' t v := by
  have tp := f.tp1 hv (by intro _ z; cases z)
  cases v with
  | held => exact tp _ _ h
  | word p => obtain ⟨pa, e1, e2⟩ := h; exact ⟨pa, tp _ _ e1, tp _ _ e2⟩
  | size p => obtain ⟨pa, e1, e2⟩ := h; exact ⟨pa, tp _ _ e1, tp _ _ e2⟩
  | same p q => obtain ⟨pa, qa, e1, e2, e3⟩ := h; exact ⟨pa, qa, tp _ _ e1, tp _ _ e2, tp _ _ e3⟩
  | alike ps =>
    obtain ⟨l, A, e1, e2, e3⟩ := h
    refine ⟨l, A, tp _ _ e1, f.g e2 (nin fun z => ?_), e3.tp tp⟩
    subst z
    rw [hv] at e2
    have e4 := HO.lst.inj (Option.some.inj e2)
    have e5 : (A.map V.ref)[0]? = some (.ref b0) := by rw [← e4, List.getElem?_map, h0]; rfl
    rw [List.getElem?_map] at e5
    obtain ⟨a, ha, ea⟩ := Option.map_eq_some_iff.mp e5
    rw [V.ref.inj ea] at ha
    obtain ⟨p, hp⟩ : ∃ p, ps[0]? = some p := ⟨_, List.getElem?_eq_getElem (by rw [← e3.1]; exact (List.getElem?_eq_some_iff.mp ha).1)⟩
    have := e3.2 0 b0 p ha hp
    rw [hb] at this
    cases this

end LX
namespace LX
open PySem PySem.Spec PyProof.Rows L2 NdefX
set_option hygiene false in
local macro_rules | `(tactic| k_memK) => `(tactic| first | exact W.na_Comparison_one | exact W.na_Comparison_other | exact W.na_Comparison_there | exact W.na_Comparison_back | exact W.na_Comparison_first | exact W.na_Store_room | exact W.na_Store_entries | exact W.na_Store_words | exact W.na_Store__places | exact W.na_Store__least | exact W.na_Space_store | exact W.na_Space_pressure | exact W.na_Space_always | exact W.na_Space_allocations | exact W.na_Space_collections | exact W.na_Space__roots | exact W.na_Space__held | exact W.na_Space__saved)
set_option hygiene false in
local macro_rules | `(tactic| k_ownIn) => `(tactic| first | exact W.C_Comparison | exact W.C_Store | exact W.C_Space)
local macro_rules | `(tactic| none_booked) => `(tactic| first | assumption | (refine Fr.g0 (by assumption) ?_; none_booked))
local macro_rules | `(tactic| one_sign) => `(tactic| repeat (first
  | refine Stp.h ?_
  | ((with_reducible refine' z_fld1 ?k0 ?k1 ?k2 ?k3 ?_); (case k0 => none_booked); (case k1 => k_ownIn); (case k2 => k_memK); (case k3 => rfl))
  | ((with_reducible refine' z_meth1 ?k0 ?k1 ?_); (case k0 => none_booked); (case k1 => rfl))
  | ((with_reducible refine' z_bmL ?k0 ?_); (case k0 => none_booked))
  | ((with_reducible refine' z_lenL ?k0 ?_); (case k0 => none_booked))
  | ((with_reducible refine' z_lenT ?k0 ?_); (case k0 => none_booked))
  | ((with_reducible refine' z_lenD ?k0 ?_); (case k0 => none_booked))
  | ((with_reducible refine' z_truL ?k0 ?_); (case k0 => none_booked))
  | ((with_reducible refine' z_truD ?k0 ?_); (case k0 => none_booked))
  | ((with_reducible refine' z_truT ?k0 ?_); (case k0 => none_booked))
  | ((with_reducible refine' z_inDIP ?k0 ?_); (case k0 => none_booked))
  | ((with_reducible refine' z_inDIN ?k0 ?_); (case k0 => none_booked))
  | ((with_reducible refine' z_inDfP ?k0 ?_); (case k0 => none_booked))
  | ((with_reducible refine' z_inDfN ?k0 ?_); (case k0 => none_booked))
  | ((with_reducible refine' z_iList1 ?k0 ?_); (case k0 => none_booked))
  | ((with_reducible refine' z_isi0 ?k0 ?k1 ?k2 ?_); (case k0 => exact (ClsV.ty _)); (case k1 => exact (TyX.base (TyOf.lst (by none_booked)))); (case k2 => first | exact kt_list_int | exact kt_list_bool | exact kt_list_str | exact kt_list_list | exact kt_list_tuple | exact kt_list_dict))
  | ((with_reducible refine' z_rI ?k0 ?_); (case k0 => first | exact (by decide : (0 : Int) < _) | exact ⟨by decide, by decide⟩ | exact ⟨by decide, by decide, by decide⟩ | (show (0 : Int) < _; omega)))
  | ((with_reducible refine' z_mulI ?k0 ?_); (case k0 => first | exact Or.inr ⟨by decide, by decide⟩ | exact Or.inl ⟨by decide, by decide⟩ | exact Or.inl ⟨by omega, by omega⟩ | exact Or.inr ⟨by omega, by omega⟩))))
local macro_rules | `(tactic| leaf_len) => `(tactic| (simp only [wipe, List.map_cons, List.map_nil, List.set_cons_zero, List.set_cons_succ]; one_sign; refine z_ok rfl ?_; one_sign))

section
variable {P : Program} {w : World} {K : PySem.W.Frag} {mg : Str → Option Value} {base : Heap}
def sp_law67 (K : PySem.W.Frag) (PT : Addr) : Sp := fun vs H Q _ => ∃ (a : Addr) (ns : List Int), vs = [.ref a] ∧ SqL K H a (ns.map V.int) ∧ ns.length ≤ 63 ∧ LamX.TabS H PT qLam ∧ ∀ H', Q (.bl true) H'
theorem ok_law (W : WT P K mg base) : FnOk P w K mg base CX0 9 W.f_law W.fd_law ["_law_script"] (sp_law67 K W.PT_Store_close_up) := by
  refine W.F_law.ok sc_law (fun vs H Q E h => by obtain ⟨a, ns, rfl, hs, hl, tab, k⟩ := h; rfl) (fun cdv A outer s H vs Q E hr h => ?_)
  obtain ⟨a, ns, rfl, hs, hl, tab, k⟩ := h
  have hu1 := hu_of hr
  have hu64 := hu64_of hr
  refine ⟨_, (pss_cons (ps_setLc (i := 1) (own := [("_law_cell", 2)]) (g := gName 2) (tt := tYes) rfl sc_law.nd rfl rfl (sw_true rfl rfl rfl (by decide +kernel)) (pi_list (pv 0)) (blkOk_by (N := N_law) (sc := defScope s_law) (by first | decide +kernel | rfl)) (fun _ _ _ _ _ => (pg_name (i := 2) sc_law.nd rfl (by first | exact Or.inl rfl | exact Or.inr rfl))) (fun _ _ _ _ _ => pts_nil) (fun _ _ _ _ _ => (pe_callTy call_intU (by rfl) W.n_int bb_int (pa_cons (pv 2) pa_nil))))
      (Evl.pss_cut (ps_while PassesOwn.never (pt_cmpR op_ltU (pe_callB call_lenU (by rfl) W.n_len bb_len (pa_cons (pv 1) pa_nil)) pe_int (by first | exact nomark _ | rfl)) (pss_one (ps_expr (pe_bm PySem.F.plainAttrs_list PySem.F.slot_list_append PySem.F.type_list_append mt_append (pv 1) (pa_cons pe_int pa_nil)))))
      (pss_cons (ps_set (i := 3) sc_law.nd rfl (by first | exact Or.inl rfl | exact Or.inr rfl) (pe_call (ok__law_built W) (hr.mono (by decide)) rfl W.g__law_built W.F__law_built.kp W.b__law_built .nil pass0 (pa_cons (pv 1) pa_nil)))
      (pss_cons (ps_set (i := 4) sc_law.nd rfl (by first | exact Or.inl rfl | exact Or.inr rfl) (pe_ix (ix_U hu1) (pv 3) pe_int (fun _ _ => rfl)))
      (pss_cons (ps_set (i := 5) sc_law.nd rfl (by first | exact Or.inl rfl | exact Or.inr rfl) (pe_ix (ix_U hu1) (pv 3) pe_int (fun _ _ => rfl)))
      (pss_cons (ps_set (i := 6) sc_law.nd rfl (by first | exact Or.inl rfl | exact Or.inr rfl) (pe_call (ok__law_space W) (hr.mono (by decide)) rfl W.g__law_space W.F__law_space.kp W.b__law_space .nil pass0 (pa_cons (pe_ix (ix_U hu1) (pv 4) pe_int (fun _ _ => rfl)) (pa_cons (pe_ix (ix_U hu1) (pv 4) pe_int (fun _ _ => rfl)) pa_nil))))
      (pss_cons (ps_set (i := 7) sc_law.nd rfl (by first | exact Or.inl rfl | exact Or.inr rfl) (pe_call (ok__law_space W) (hr.mono (by decide)) rfl W.g__law_space W.F__law_space.kp W.b__law_space .nil pass0 (pa_cons (pe_ix (ix_U hu1) (pv 5) pe_int (fun _ _ => rfl)) (pa_cons (pe_ix (ix_U hu1) (pv 5) pe_int (fun _ _ => rfl)) pa_nil))))
      (pss_cons (ps_if (PW.pt (pw_or (pt_cmpR op_isU (pv 6) pe_non (by first | exact nomark _ | rfl)) (pw_or1 (pt_cmpR op_isU (pv 7) pe_non (by first | exact nomark _ | rfl))))) (pss_one (ps_ret pe_bl)) pss_nil)
      (pss_cons (ps_set (i := 8) sc_law.nd rfl (by first | exact Or.inl rfl | exact Or.inr rfl) (pe_call (ok__law_due W) (hr.mono (by decide)) rfl W.g__law_due W.F__law_due.kp W.b__law_due .nil pass0 (pa_cons (pv 4) (pa_cons (pv 5) pa_nil))))
      (pss_cons (ps_set (i := 9) sc_law.nd rfl (by first | exact Or.inl rfl | exact Or.inr rfl) (pe_call (ok_compare W) (hr.mono (by decide)) rfl W.g_compare W.F_compare.kp W.b_compare .nil pass0 (pa_cons (pv 6) (pa_cons (pv 7) pa_nil))))
      (pss_cons (ps_if (PW.pt (pw_or (pt_not (pt_truth (pe_call (ok__law_tuple_is W) (hr.mono (by decide)) rfl W.g__law_tuple_is W.F__law_tuple_is.kp W.b__law_tuple_is .nil pass0 (pa_cons (pv 9) (pa_cons (pv 8) pa_nil))) (by intro _; rfl))) (pw_or (pt_cmpR op_isnotU (pe_call (ok_judge W) (hr.mono (by decide)) rfl W.g_judge W.F_judge.kp W.b_judge .nil pass0 (pa_cons (pv 6) (pa_cons (pv 7) (pa_cons (pv 9) pa_nil)))) pe_bl (by first | exact nomark _ | rfl)) (pw_or1 (pt_not (pt_truth (pe_call (ok__law_holds W) (hr.mono (by decide)) rfl W.g__law_holds W.F__law_holds.kp W.b__law_holds .nil pass0 (pa_cons (pv 4) (pa_cons (pv 5) (pa_cons (pv 8) pa_nil)))) (by intro _; rfl))))))) (pss_one (ps_ret pe_bl)) pss_nil)
      (pss_cons (ps_setLc (i := 10) (own := [("_law_k", 11)]) (g := gName 11) (tt := tYes) rfl sc_law.nd rfl rfl (sw_true rfl rfl rfl (by decide +kernel)) (pi_range1 (by rfl) W.n_range (pa_cons (pe_callB call_lenU (by rfl) W.n_len bb_len (pa_cons (pe_ix (ix_U hu1) (pv 3) pe_int (fun _ _ => rfl)) pa_nil)) pa_nil)) (blkOk_by (N := N_law) (sc := defScope s_law) (by first | decide +kernel | rfl)) (fun _ _ _ _ _ => (pg_name (i := 11) sc_law.nd rfl (by first | exact Or.inl rfl | exact Or.inr rfl))) (fun _ _ _ _ _ => pts_nil) (fun _ _ _ _ _ => (pe_tup (pa_cons (pe_ix (ix_UK (K := K) rfl (by exact hu1)) (pe_ix (ix_UK (K := K) rfl (by exact hu1)) (pv 3) pe_int (fun _ _ => rfl)) (pv 11) (fun _ _ => rfl)) (pa_cons (pv 11) pa_nil)))))
      (pss_cons (ps_set (i := 12) sc_law.nd rfl (by first | exact Or.inl rfl | exact Or.inr rfl) (pe_lst (pa_cons (pe_tup (pa_cons (pe_strT (show (PySem.Str.ofString "alike") = T [97, 108, 105, 107, 101] by decide +kernel)) (pa_cons (pv 10) pa_nil))) (pa_cons (pe_tup (pa_cons (pe_strT (show (PySem.Str.ofString "alike") = T [97, 108, 105, 107, 101] by decide +kernel)) (pa_cons (pe_lst pa_nil) pa_nil))) pa_nil))))
      (pss_cons (ps_for PassesOwn.never rfl (pi_range2 (by rfl) W.n_range (pa_cons pe_int (pa_cons (pe_callB call_lenU (by rfl) W.n_len bb_len (pa_cons (pv 1) pa_nil)) pa_nil))) (pg_name (i := 11) sc_law.nd rfl (by first | exact Or.inl rfl | exact Or.inr rfl)) (pss_cons (ps_set (i := 13) sc_law.nd rfl (by first | exact Or.inl rfl | exact Or.inr rfl) (pe_call (ok__law_number W) (hr.mono (by decide)) rfl W.g__law_number W.F__law_number.kp W.b__law_number .nil pass0 (pa_cons (pe_ix (ix_U hu1) (pv 1) (pv 11) (fun _ _ => rfl)) (pa_cons (pv 11) pa_nil))))
      (pss_cons (ps_expr (pe_bm PySem.F.plainAttrs_list PySem.F.slot_list_append PySem.F.type_list_append mt_append (pv 12) (pa_cons (pe_call (ok__law_verdict W) (hr.mono (by decide)) rfl W.g__law_verdict W.F__law_verdict.kp W.b__law_verdict .nil pass0 (pa_cons (pv 4) (pa_cons (pv 5) (pa_cons (pv 10) (pa_cons (pv 13) pa_nil))))) pa_nil)))
      (pss_one (ps_expr (pe_bm PySem.F.plainAttrs_list PySem.F.slot_list_append PySem.F.type_list_append mt_append (pv 12) (pa_cons (pe_call (ok__law_verdict W) (hr.mono (by decide)) rfl W.g__law_verdict W.F__law_verdict.kp W.b__law_verdict .nil pass0 (pa_cons (pv 4) (pa_cons (pv 5) (pa_cons (pv 10) (pa_cons (pe_op op_fdivW (pv 13) pe_int) pa_nil))))) pa_nil)))))))
      (pss_cons (ps_for PassesOwn.never rfl (pi_list (pv 12)) (pg_name (i := 14) sc_law.nd rfl (by first | exact Or.inl rfl | exact Or.inr rfl)) (pss_cons (ps_set (i := 15) sc_law.nd rfl (by first | exact Or.inl rfl | exact Or.inr rfl) (pe_call (ok_judge W) (hr.mono (by decide)) rfl W.g_judge W.F_judge.kp W.b_judge .nil pass0 (pa_cons (pv 6) (pa_cons (pv 7) (pa_cons (pv 14) pa_nil)))))
      (pss_cons (ps_if (PW.pt (pw_or (pt_not (pt_truth (pe_callB call_isi (by rfl) W.n_isinstance bb_isinstance (pa_cons (pv 15) (pa_cons (pe_bt rfl W.n_bool bb_bool) pa_nil))) (by intro _; rfl))) (pw_or1 (pt_cmpR (op_neU hu64) (pv 15) (pe_call (ok__law_holds W) (hr.mono (by decide)) rfl W.g__law_holds W.F__law_holds.kp W.b__law_holds .nil pass0 (pa_cons (pv 4) (pa_cons (pv 5) (pa_cons (pv 14) pa_nil)))) (by first | exact nomark _ | rfl))))) (pss_one (ps_ret pe_bl)) pss_nil)
      (pss_one (ps_if (PW.pt (pw_and (pt_truth (pv 15) (by intro _; rfl)) (pw_and1 (pt_cmpR (op_neU hu64) (pe_cmpR (op_eqU hu64) (pe_ix (ix_U hu1) (pv 14) pe_int (fun _ _ => rfl)) (pe_strT (show (PySem.Str.ofString "alike") = T [97, 108, 105, 107, 101] by decide +kernel)) (by first | exact nomark _ | rfl)) (pe_cmpR (op_eqU hu64) (pe_ix (ix_U hu1) (pv 8) pe_int (fun _ _ => rfl)) (pe_strT (show (PySem.Str.ofString "alike") = T [97, 108, 105, 107, 101] by decide +kernel)) (by first | exact nomark _ | rfl)) (by first | exact nomark _ | rfl))))) (pss_one (ps_ret pe_bl)) pss_nil)))))
      (pss_one (ps_ret (pe_and (pe_call (ok__law_kept W) (hr.mono (by decide)) rfl W.g__law_kept W.F__law_kept.kp W.b__law_kept .nil pass0 (pa_cons (pv 6) (pa_cons (pe_ix (ix_U hu1) (pv 4) pe_int (fun _ _ => rfl)) (pa_cons (pe_ix (ix_U hu1) (pv 4) pe_int (fun _ _ => rfl)) pa_nil)))) (pe_one (pe_call (ok__law_kept W) (hr.mono (by decide)) rfl W.g__law_kept W.F__law_kept.kp W.b__law_kept .nil pass0 (pa_cons (pv 7) (pa_cons (pe_ix (ix_U hu1) (pv 5) pe_int (fun _ _ => rfl)) (pa_cons (pe_ix (ix_U hu1) (pv 5) pe_int (fun _ _ => rfl)) pa_nil))))))))))))))))))))))), ?_⟩
  refine z_start (σ := [some _, none, none, none, none, none, none, none, none, none, none, none, none, none, none, none]) rfl ?_
  one_sign
  refine z_iterQ hs ?_
  refine z_lcQ hs (fun i xs H' => xs = (ns.take i).map V.int) (fun _ _ _ _ => rfl) (fun R i x xs H1 hR hi hlt hxl hxs hR1 f1 => ?_) (fun cl xs H1 hcl hxs hxl hR1 f1 => ?_)
  · rw [List.getElem?_map] at hi
    obtain ⟨n, hn, rfl⟩ := Option.map_eq_some_iff.mp hi
    have hxs : xs = (ns.take i).map V.int := hxs
    subst hxs
    leaf_len
    exact z_lcY hR hR1 f1 hxl (by rw [List.length_map] at hlt; rw [sizeLine_eq]; omega) fun H5 _ _ _ => by
      show _ = _
      rw [List.take_succ, hn, List.map_append]; rfl
  have hxs : xs = (ns.take (ns.map V.int).length).map V.int := hxs
  rw [List.length_map, List.take_length] at hxs
  subst hxs
  one_sign
  refine Evl.q_cut (M := fun σ H' => ∃ ns2 : List Int, σ = [some (.ref a), some (.ref cl), none, none, none, none, none, none, none, none, none, none, none, none, none, none] ∧ H' cl = some (.lst (ns2.map V.int)) ∧ 4 ≤ ns2.length ∧ ns2.length ≤ 67 ∧ Fr [] H H') ?_ ?_
  · refine ⟨fun m σ H' => ∃ ns2 : List Int, σ = [some (.ref a), some (.ref cl), none, none, none, none, none, none, none, none, none, none, none, none, none, none] ∧ H' cl = some (.lst (ns2.map V.int)) ∧ ns2.length ≤ 67 ∧ Fr [] H H' ∧ m = 4 - ns2.length, ⟨_, ns, rfl, hR1, by omega, f1, rfl⟩, ?_⟩
    rintro m σ H2 ⟨ns2, rfl, hc2, hl2, f2, rfl⟩
    one_sign
    rw [List.length_map]
    refine iteD (fun h => ?_) (fun h => ?_)
    · have h : (ns2.length : Int) < 4 := h
      refine ⟨_, fun _ _ z => z, ?_⟩
      one_sign
      refine z_append hc2 (by rw [List.length_map, sizeLine_eq]; omega) fun H3 f3 h3 n3 => ?_
      exact ⟨4 - (ns2.length + 1), by omega, ns2 ++ [7], rfl, by rw [h3, List.map_append]; rfl, by rw [List.length_append]; show ns2.length + 1 ≤ 67; omega, f2.in f3 hcl, by rw [List.length_append]; rfl⟩
    · have h : ¬ (ns2.length : Int) < 4 := h
      one_sign
      exact ⟨ns2, rfl, hc2, by omega, hl2, f2⟩
  rintro σ H2 ⟨ns2, rfl, hc2, h4, h67, f2⟩
  one_sign
  refine ⟨cl, ns2, rfl, hc2, h4, fun bt o1 o2 oa R1 R2 ws1 ws2 Os H3 t3 W1 W2 hoa hOs f3 => ?_⟩
  one_sign
  refine z_ixT t3 rfl ?_
  one_sign
  refine z_ixT t3 rfl ?_
  have W1' := W1
  have W2' := W2
  obtain ⟨ra1, wa1, A1, hw1, L1⟩ := W1'
  obtain ⟨ra2, wa2, A2, hw2, L2⟩ := W2'
  have f23 := f2.trans f3
  have tab3 := tab.ext fun b o e => f23.g0 e
  one_sign
  refine z_ixT hw1 rfl ?_
  one_sign
  refine z_ixT hw1 rfl ?_
  one_sign
  refine ⟨ra1, wa1, A1, R1, ws1, rfl, L1.ra, L1.rows, L1.lR, L1.lr, L1.wa, L1.lw.1, L1.lw.2, tab3, fun s1 X1 O1 rs1 hs1 H4 S1 ews1 hO1 ix1 nX1 f4 => ?_⟩
  have tab4 := tab3.ext fun b o e => f4.g0 e
  one_sign
  refine z_ixT (f4.g0 hw2) rfl ?_
  one_sign
  refine z_ixT (f4.g0 hw2) rfl ?_
  one_sign
  refine ⟨ra2, wa2, A2, R2, ws2, rfl, f4.g0 L2.ra, L2.rows.mono f4, L2.lR, L2.lr, f4.g0 L2.wa, L2.lw.1, L2.lw.2, tab4, fun s2 X2 O2 rs2 hs2 H5 S2 ews2 hO2 ix2 nX2 f5 => ?_⟩
  have f35 := f4.trans f5
  have V1 : WV W.c_Store W.c_Space W.PT_Store_close_up H5 s1 R1 (0 :: ws1) := ⟨X1, O1, rs1, hs1, S1.keep f5, hO1, ix1, by rw [ews1]⟩
  have V2 : WV W.c_Store W.c_Space W.PT_Store_close_up H5 s2 R2 (0 :: ws2) := ⟨X2, O2, rs2, hs2, S2, hO2, ix2, by rw [ews2]⟩
  have hb26 : ∀ r ∈ R1, r.length ≤ 26 := fun r hr => (L1.lr r hr).2
  have vb : VdB (vdt R1 R2 (0 :: ws1) (0 :: ws2)) := vdt_b hb26 L1.lR
  have vh := vdt_hold (R1 := R1) (R2 := R2) (r1 := 0 :: ws1) (r2 := 0 :: ws2) hb26
  one_sign
  refine ⟨o1, o2, R1, R2, ws1, ws2, rfl, W1.keep f35, W2.keep f35, fun du H6 du6 f6 => ?_⟩
  one_sign
  refine ⟨s1, s2, R1, R2, 0 :: ws1, 0 :: ws2, rfl, V1.keep f6, V2.keep f6, fun to H7 to7 f7 => ?_⟩
  have f57 := f6.trans f7
  have f37 := f35.trans f57
  have du7 := du6.keep f7
  one_sign
  obtain ⟨us, ws, hus, hws, hll, hl1000, hei⟩ := ti_of to7 du7 vb
  refine ⟨to, du, us, ws, rfl, hus, hws, hll, hl1000, hei, fun H8 f8 => ?_⟩
  have f58 := f57.trans f8
  have f38 := f37.trans f8
  one_sign
  refine ⟨s1, s2, R1, R2, 0 :: ws1, 0 :: ws2, to, _, rfl, V1.keep f58, V2.keep f58, to7.keep f8, vb, fun b hb H9 f9 => ?_⟩
  obtain rfl : b = true := hb.mpr vh
  have f59 := f58.trans f9
  have f39 := f38.trans f9
  one_sign
  refine iteF ?_
  one_sign
  refine ⟨o1, o2, R1, R2, ws1, ws2, du, _, rfl, W1.keep f39, W2.keep f39, (du7.keep f8).keep f9, vb, fun b hb H10 f10 => ?_⟩
  obtain rfl : b = true := hb.mpr vh
  have f510 := f59.trans f10
  have f310 := f39.trans f10
  have du10 := ((du7.keep f8).keep f9).keep f10
  have t10 := f310.g0 t3
  have oa10 := f310.g0 hoa
  one_sign
  try (refine iteF ?_; one_sign)
  refine z_ixT t10 rfl ?_
  one_sign
  rw [List.length_map]
  refine z_rng1 Os.length rfl (by omega) ?_
  refine z_lcR (fun i xs H' => ∃ (A : List Addr) (ps : List (Int × Int)), xs = A.map V.ref ∧ PrsAt H' A ps ∧ ps.length = i) (fun _ _ _ _ => ⟨[], [], rfl, ⟨rfl, fun i a p e => (by cases e)⟩, rfl⟩) (fun Rr i xs H11 hRr hi hxl hP hX f11 => ?_) (fun pl xs H11 hpl hP hxl hX f11 => ?_)
  · obtain ⟨A, ps, rfl, hPr, hpl⟩ := hP
    obtain ⟨x, hx⟩ : ∃ x, Os[i]? = some x := ⟨_, List.getElem?_eq_getElem hi⟩
    leaf_len
    refine z_ixT (f11.g0 t10) rfl ?_
    one_sign
    refine z_ixL (f11.g0 oa10) (by rw [Int.zero_add]; exact atI_nat (int_at hx)) ?_
    one_sign
    refine z_newL (by show 2 ≤ sizeLine; decide) fun nt H12 hnt f12 nt12 => ?_
    refine z_lcY hRr (f12.g0 hX) (f11.trans f12) hxl (by rw [sizeLine_eq]; omega) fun H13 f13 _ _ => ?_
    have t13 : TP H12 H13 := f13.tp1 (f12.g0 hX) (by intro _ z; cases z)
    exact ⟨A ++ [nt], ps ++ [(x, 0 + (i : Int))], by rw [List.map_append]; rfl, PrsAt.snoc ((hPr.keep f12).tp t13) (t13 _ _ nt12), by rw [List.length_append, hpl]; rfl⟩
  obtain ⟨Ap, ps, rfl, hPr, hpl2⟩ := hP
  have f311 := f310.trans f11
  one_sign
  refine z_newL (by show 2 ≤ sizeLine; decide) fun b0 H12 hb0 f12 b012 => ?_
  one_sign
  refine z_newL (by show 0 ≤ sizeLine; decide) fun e0 H13 he0 f13 e013 => ?_
  one_sign
  refine z_newL (by show 2 ≤ sizeLine; decide) fun b1 H14 hb1 f14 b114 => ?_
  one_sign
  refine z_newL (by show 2 ≤ sizeLine; decide) fun va H15 hva f15 va15 => ?_
  have f1114 := (f12.trans f13).trans f14
  have f1115 := f1114.trans f15
  have b015 := (((f13.trans f14).trans f15).g0 b012)
  have va15 : H15 va = some (.lst ([b0, b1].map V.ref)) := va15
  have hva11 : H11 va = none := f1114.none hva
  have c11 := f311.g0 (f3.g0 hc2)
  have dv0 : ∃ v, VdAt H15 b0 v ∧ VdB v := ⟨.alike ps, ⟨pl, Ap, b015, f1115.g0 hX, hPr.keep f1115⟩, by show ps.length ≤ 1000; omega⟩
  have dv1 : ∃ v, VdAt H15 b1 v ∧ VdB v := ⟨.alike [], ⟨e0, [], f15.g0 b114, (f14.trans f15).g0 e013, ⟨rfl, fun i a p e => (by cases e)⟩⟩, by show 0 ≤ 1000; omega⟩
  have c15 := f1115.g0 c11
  one_sign
  rw [List.length_map]
  refine z_rng2 (ns2.length - 4) (by omega) (by omega) ?_
  refine for_range (lo := 4) (n := ns2.length - 4) (fun j σ H' => ∃ (B : List Addr) (v11 v13 v14 v15 : Option V), σ = [some (.ref a), some (.ref cl), none, some (.ref bt), some (.ref o1), some (.ref o2), some (.ref s1), some (.ref s2), some (.ref du), some (.ref to), some (.ref pl), v11, some (.ref va), v13, v14, v15] ∧ H' va = some (.lst (B.map V.ref)) ∧ B[0]? = some b0 ∧ (∀ b ∈ B, ∃ v, VdAt H' b v ∧ VdB v) ∧ (∃ la, H' b0 = some (.tup [.str sALIKE, .ref la])) ∧ B.length = 2 + 2 * j ∧ Fr [] H11 H')
    ⟨[b0, b1], _, _, _, _, rfl, va15, rfl, fun b hb => by rcases List.mem_cons.mp hb with rfl | hb; exact dv0; rw [List.mem_singleton.mp hb]; exact dv1, ⟨pl, b015⟩, rfl, f1115⟩ (fun j σ H16 hj hI => ?_) (fun σ H16 hI => ?_)
  · obtain ⟨B, v11, v13, v14, v15, rfl, vaB, hB0, hBv, hZ, hBl, f1116⟩ := hI
    have f316 := f311.trans f1116
    have c16 := f1116.g0 c11
    have b016 : ∀ {H'}, Fr [] H11 H' → True := fun _ => trivial
    obtain ⟨c, hc⟩ : ∃ c, ns2[4 + j]? = some c := ⟨_, List.getElem?_eq_getElem (by omega)⟩
    obtain ⟨w0, hw0, hw0b⟩ := hBv b0 (List.mem_of_getElem? hB0)
    one_sign
    refine z_ixL c16 (by rw [show (4 : Int) + (j : Int) = ((4 + j : Nat) : Int) by omega]; exact atI_nat (int_at hc)) ?_
    one_sign
    refine ⟨_, _, rfl, by omega, by omega, fun x hx0 => ?_⟩
    have pl16 := f1116.g0 hX
    have va016 := vaB
    one_sign
    refine ⟨o1, o2, R1, R2, ws1, ws2, pl, Ap, ps, x, rfl, W1.keep f316, W2.keep f316, pl16, hPr.keep f1116, by omega, fun t1 v1 H17 hv1 hv1b f17 => ?_⟩
    have vaB17 := f17.g0 vaB
    have hB17 : ∀ b ∈ B, ∃ v, VdAt H17 b v ∧ VdB v := fun b hb => let ⟨v, h1, h2⟩ := hBv b hb; ⟨v, h1.keep f17, h2⟩
    have f1117 := f1116.trans f17
    one_sign
    refine z_append vaB17 (by rw [List.length_map, sizeLine_eq]; omega) fun H18 f18 va18 n18 => ?_
    have va18 : H18 va = some (.lst ((B ++ [t1]).map V.ref)) := by rw [va18, List.map_append]; rfl
    have f1118 : Fr [] H11 H18 := f1117.in f18 hva11
    have hz0 : ∃ la, H17 b0 = some (.tup [.str sALIKE, .ref la]) := by
      obtain ⟨la', h⟩ := hZ
      exact ⟨la', f17.g0 h⟩
    obtain ⟨la0, hz0⟩ := hz0
    have hB18 : ∀ b ∈ B ++ [t1], ∃ v, VdAt H18 b v ∧ VdB v := fun b hb => by
      rcases List.mem_append.mp hb with hb | hb
      · obtain ⟨v, h1, h2⟩ := hB17 b hb
        exact ⟨v, h1.app vaB17 hB0 hz0 f18, h2⟩
      · rw [List.mem_singleton.mp hb]
        exact ⟨v1, hv1.app vaB17 hB0 hz0 f18, hv1b⟩
    have hB180 : (B ++ [t1])[0]? = some b0 := by rw [List.getElem?_append_left (by omega)]; exact hB0
    have f318 := f311.trans f1118
    have z18 := (f18.tp1 vaB17 (by intro _ z; cases z)) _ _ hz0
    one_sign
    refine ⟨o1, o2, R1, R2, ws1, ws2, pl, Ap, ps, x / 1009, rfl, W1.keep f318, W2.keep f318, f1118.g0 hX, hPr.keep f1118, by omega, fun t2 v2 H19 hv2 hv2b f19 => ?_⟩
    have vaB19 := f19.g0 va18
    have hz19 := f19.g0 z18
    one_sign
    refine z_append vaB19 (by rw [List.length_map, List.length_append, sizeLine_eq]; show B.length + 1 < _; omega) fun H20 f20 va20 n20 => ?_
    have va20 : H20 va = some (.lst ((B ++ [t1] ++ [t2]).map V.ref)) := by rw [va20, List.map_append (l₁ := B ++ [t1])]; rfl
    refine ⟨B ++ [t1] ++ [t2], _, _, _, _, rfl, va20, by rw [List.getElem?_append_left (by rw [List.length_append]; show 0 < _ + 1; omega)]; exact hB180, fun b hb => ?_, ⟨la0, (f20.tp1 vaB19 (by intro _ z; cases z)) _ _ hz19⟩, by rw [List.length_append, List.length_append, hBl]; show 2 + 2 * j + 1 + 1 = _; omega, (f1118.trans f19).in f20 hva11⟩
    rcases List.mem_append.mp hb with hb | hb
    · obtain ⟨v, h1, h2⟩ := hB18 b hb
      exact ⟨v, (h1.keep f19).app vaB19 hB180 hz19 f20, h2⟩
    · rw [List.mem_singleton.mp hb]
      exact ⟨v2, hv2.app vaB19 hB180 hz19 f20, hv2b⟩
  obtain ⟨B, v11, v13, v14, v15, rfl, vaB, hB0, hBv, hZ, hBl, f1116⟩ := hI
  have f316 := f311.trans f1116
  have f1016 := f11.trans f1116
  have f516 := f510.trans f1016
  have V116 := V1.keep f516
  have V216 := V2.keep f516
  have du16 := du10.keep f1016
  obtain ⟨rdu, hdu⟩ := vd_head du16
  one_sign
  refine for_list (K := K) (a := va) (xs := B.map V.ref) (fun j σ H' => ∃ (v11 v13 v14 v15 : Option V), σ = [some (.ref a), some (.ref cl), none, some (.ref bt), some (.ref o1), some (.ref o2), some (.ref s1), some (.ref s2), some (.ref du), some (.ref to), some (.ref pl), v11, some (.ref va), v13, v14, v15] ∧ Fr [] H16 H') ⟨_, _, _, _, rfl, Fr.rfl'⟩ (fun j σ H' _ hI => ?_) (fun j x σ H17 hx hI => ?_) (fun σ H17 hI => ?_)
  · obtain ⟨v11, v13, v14, v15, _, f⟩ := hI
    exact SqL.of (f.g0 vaB)
  · obtain ⟨v11, v13, v14, v15, rfl, f17⟩ := hI
    rw [List.getElem?_map] at hx
    obtain ⟨b, hb, rfl⟩ := Option.map_eq_some_iff.mp hx
    obtain ⟨v, hv, hvb⟩ := hBv b (List.mem_of_getElem? hb)
    have hv17 := hv.keep f17
    one_sign
    refine ⟨s1, s2, R1, R2, 0 :: ws1, 0 :: ws2, b, v, rfl, V116.keep f17, V216.keep f17, hv17, hvb, fun x hx H18 f18 => ?_⟩
    have f1618 := f17.trans f18
    have hv18 := hv17.keep f18
    one_sign
    refine ⟨o1, o2, R1, R2, ws1, ws2, b, v, rfl, W1.keep (f316.trans f1618), W2.keep (f316.trans f1618), hv18, hvb, fun y hy H19 f19 => ?_⟩
    obtain rfl : x = y := by
      exact Bool.eq_iff_iff.mpr (hx.trans hy.symm)
    have f1619 := f1618.trans f19
    have hv19 := hv18.keep f19
    obtain ⟨rb, hhb⟩ := vd_head hv19
    have hdu19 := f1619.g0 hdu
    one_sign
    refine ⟨by cases x <;> rfl, ?_⟩
    rw [decide_eq_true rfl]
    refine ⟨false, rfl, ?_⟩
    dsimp only
    refine iteF ?_
    one_sign
    cases x with
    | false =>
      try (refine iteF ?_)
      try (one_sign)
      exact ⟨_, _, _, _, rfl, f1619⟩
    | true =>
      try (refine iteT ?_)
      try (one_sign)
      refine z_ixT hhb (atI_nat (j := 0) rfl) ?_
      one_sign
      refine z_ixT hdu19 (atI_nat (j := 0) rfl) ?_
      one_sign
      rw [nm_al, nm_al, hold_al hb26 (hx.mp rfl)]
      refine ⟨by cases isAl (vdt R1 R2 (0 :: ws1) (0 :: ws2)) <;> rfl, ?_⟩
      rw [decide_eq_true rfl]
      refine ⟨false, rfl, ?_⟩
      dsimp only
      refine iteF ?_
      one_sign
      exact ⟨_, _, _, _, rfl, f1619⟩
  · obtain ⟨v11, v13, v14, v15, rfl, f17⟩ := hI
    have f517 := f516.trans f17
    have f317 := f316.trans f17
    have h1 := f317.g0 hw1
    have h2 := f317.g0 hw2
    have LA := L1.keep f317
    have LB := L2.keep f317
    rw [← ews1] at LA
    rw [← ews2] at LB
    one_sign
    refine z_ixT h1 rfl ?_
    one_sign
    refine z_ixT h1 rfl ?_
    one_sign
    refine ⟨s1, ra1, wa1, X1, O1, A1, rs1, hs1, R1, rfl, (S1.keep f5).keep f517, hO1, ix1, LA, fun H18 f18 => ?_⟩
    one_sign
    try (refine iteT ?_; one_sign)
    refine z_ixT (f18.g0 h2) rfl ?_
    one_sign
    refine z_ixT (f18.g0 h2) rfl ?_
    one_sign
    exact ⟨s2, ra2, wa2, X2, O2, A2, rs2, hs2, R2, rfl, S2.keep (f517.trans f18), hO2, ix2, LB.keep f18, fun H19 f19 => k H19⟩
end

end LX
namespace LX
open PySem PySem.Spec PyProof.Rows L2 NdefX

theorem all_mk {l : PySem.W.OpenLaw} {w : World} {K : PySem.W.Frag} {mg : Str → Option Value} {fa : Addr} {h : Heap} (W : Wd l.prog K mg) (hfa : mg "law" = some (.ref fa)) (KX : K.In h) (hP : h.get? W.PT_Store_close_up = some { cls := .none, data := .fields #[] }) :
    LamX.LawAtS l w K CX0 9 63 "_law_script" mg fa h := by
  have e := hfa.symm.trans W.g_law
  cases e
  obtain ⟨oc, od, kV, doc, pm, an, cdv, ct, osl, e, _, _⟩ := W.F_law.ex
  refine ⟨W.fd_law, [(W.cA_Store_close_up, W.PT_Store_close_up)], sp_law67 K W.PT_Store_close_up, fun p hp => ?_, fun p hp => ?_, fun p hp => ?_, fun s v => by rw [e]; exact .of_eq rfl, fun H a ns hl _ hT hS => ⟨a, ns, rfl, hS, hl, LamX.TabS.nil (hT _ (List.mem_singleton.mpr rfl)), fun _ => rfl⟩, fun base _ _ hTB => ok_law ⟨W, hTB _ (List.mem_singleton.mpr rfl)⟩⟩
  · cases List.mem_singleton.mp hp; exact hP
  · cases List.mem_singleton.mp hp; exact W.np_Store_close_up
  · cases List.mem_singleton.mp hp; exact PySem.W.codeHd_of_K KX W.hd_Store_close_up
theorem walk {l : PySem.W.OpenLaw} {q : Program} {loose : List Str} {XP : (Str → Option Value) → Heap → Prop} {YP : World → Heap → Prop} {d : DefRec} {K : Params → PySem.W.Frag} (hn : l.most = some 63) (hdf : d.params.defaults = [])
    (hY : ∀ (w : World) (h : Heap), YP w h → (K w.params).In h)
    (F : ∀ (w : World) (mg : Str → Option Value) (fa : Addr) (h : Heap), YP w h → (K w.params).In h → h.Ns mainGlobals mg → mg d.name = some (.ref fa) → LamX.LawAtS l w (K w.params) CX0 9 63 "_law_script" mg fa h) :
    PySem.W.WalkO q loose XP YP l.row.toRowW d [] (fun f vs => PySem.call f vs) :=
  LamX.walk_ofTs (n := 63) (k := 9) (x := "_law_script") (CX := fun _ => CX0) hn (by decide) hdf ⟨rfl, by decide, by decide⟩ hY F fun _ _ _ _ _ z => z

end LX

open PySem PySem.W PyProof.Rows
set_option maxRecDepth 100000 in
set_option maxHeartbeats 0 in
theorem PySem.Challenge.cw_saggar_k67_verdicts_and_their_judge_holds : PySem.Challenge.rw_saggar_k67_verdicts_and_their_judge.Holds := by
  w_on; o_law; k_head; (case hw => w_witness2)
  k_fill
  refine LX.walk (l := PySem.Challenge.rw_saggar_k67_verdicts_and_their_judge) rfl rfl (fun w h Y => PySem.W.km_in_of Y) ?F
  case F =>
    intro w mg fa h Y KX G hmg
    refine' LX.all_mk (l := PySem.Challenge.rw_saggar_k67_verdicts_and_their_judge) (LX.mkW KX G ?z_all ?z_bool ?z_int ?z_isinstance ?z_len ?z_list ?z_min ?z_range ?z_sorted ?z_str ?z_tuple ?z_zip ?c_NIL ?c_HEADER ?c_ROOTS ?cl_Comparison ?pg_Comparison ?hd_Comparison ?po_Comparison ?sa_Comparison ?mk_Comparison ?kp_Comparison ?na_Comparison_one ?na_Comparison_other ?na_Comparison_there ?na_Comparison_back ?na_Comparison_first ?cl_Store ?pg_Store ?hd_Store ?po_Store ?sa_Store ?mk_Store ?kp_Store ?na_Store_room ?na_Store_entries ?na_Store_words ?na_Store__places ?na_Store__least ?cl_Space ?pg_Space ?hd_Space ?po_Space ?sa_Space ?mk_Space ?kp_Space ?na_Space_store ?na_Space_pressure ?na_Space_always ?na_Space_allocations ?na_Space_collections ?na_Space__roots ?na_Space__held ?na_Space__saved ?a_is_ref ?l_is_ref ?c_is_ref ?k_is_ref ?a_ref_of ?l_ref_of ?c_ref_of ?k_ref_of ?a_reached ?l_reached ?c_reached ?k_reached ?a_collect ?l_collect ?c_collect ?k_collect ?a_object_of ?l_object_of ?c_object_of ?k_object_of ?a_row_of ?l_row_of ?c_row_of ?k_row_of ?a_word_at ?l_word_at ?c_word_at ?k_word_at ?a_Comparison___init__ ?l_Comparison___init__ ?c_Comparison___init__ ?k_Comparison___init__ ?fn_Comparison___init__ ?a_Comparison_clash ?l_Comparison_clash ?c_Comparison_clash ?k_Comparison_clash ?fn_Comparison_clash ?a_Comparison_met ?l_Comparison_met ?c_Comparison_met ?k_Comparison_met ?fn_Comparison_met ?a_Comparison_verdict ?l_Comparison_verdict ?c_Comparison_verdict ?k_Comparison_verdict ?fn_Comparison_verdict ?a_following ?l_following ?c_following ?k_following ?a_compare ?l_compare ?c_compare ?k_compare ?a_both_at ?l_both_at ?c_both_at ?k_both_at ?a_words_differ ?l_words_differ ?c_words_differ ?k_words_differ ?a_sizes_differ ?l_sizes_differ ?c_sizes_differ ?k_sizes_differ ?a_sharing_differs ?l_sharing_differs ?c_sharing_differs ?k_sharing_differs ?a_rows_match ?l_rows_match ?c_rows_match ?k_rows_match ?a_pairs_match ?l_pairs_match ?c_pairs_match ?k_pairs_match ?a_judge ?l_judge ?c_judge ?k_judge ?a_Store___init__ ?l_Store___init__ ?c_Store___init__ ?k_Store___init__ ?fn_Store___init__ ?a_Store_exists ?l_Store_exists ?c_Store_exists ?k_Store_exists ?fn_Store_exists ?a_Store_numbers ?l_Store_numbers ?c_Store_numbers ?k_Store_numbers ?fn_Store_numbers ?a_Store_free_number ?l_Store_free_number ?c_Store_free_number ?k_Store_free_number ?fn_Store_free_number ?a_Store_allocate ?l_Store_allocate ?c_Store_allocate ?k_Store_allocate ?fn_Store_allocate ?a_Store_size ?l_Store_size ?c_Store_size ?k_Store_size ?fn_Store_size ?a_Store_kind ?l_Store_kind ?c_Store_kind ?k_Store_kind ?fn_Store_kind ?a_Store_put ?l_Store_put ?c_Store_put ?k_Store_put ?fn_Store_put ?a_Store_slots ?l_Store_slots ?c_Store_slots ?k_Store_slots ?fn_Store_slots ?a_Store_drop ?l_Store_drop ?c_Store_drop ?k_Store_drop ?fn_Store_drop ?a_Store_close_up ?l_Store_close_up ?c_Store_close_up ?k_Store_close_up ?x1_Store_close_up ?x2_Store_close_up ?x3_Store_close_up ?x4_Store_close_up ?fn_Store_close_up ?a_Store_exchange ?l_Store_exchange ?c_Store_exchange ?k_Store_exchange ?fn_Store_exchange ?a_Space___init__ ?l_Space___init__ ?c_Space___init__ ?k_Space___init__ ?fn_Space___init__ ?a_Space_set_root ?l_Space_set_root ?c_Space_set_root ?k_Space_set_root ?fn_Space_set_root ?a_Space_hold ?l_Space_hold ?c_Space_hold ?k_Space_hold ?fn_Space_hold ?a_Space_held ?l_Space_held ?c_Space_held ?k_Space_held ?fn_Space_held ?a_Space_all_roots ?l_Space_all_roots ?c_Space_all_roots ?k_Space_all_roots ?fn_Space_all_roots ?a_Space_collect ?l_Space_collect ?c_Space_collect ?k_Space_collect ?fn_Space_collect ?a_Space_collect_with ?l_Space_collect_with ?c_Space_collect_with ?k_Space_collect_with ?fn_Space_collect_with ?a_Space_new ?l_Space_new ?c_Space_new ?k_Space_new ?fn_Space_new ?a_Space_fitted ?l_Space_fitted ?c_Space_fitted ?k_Space_fitted ?fn_Space_fitted ?a__law_number ?l__law_number ?c__law_number ?k__law_number ?a__law_word ?l__law_word ?c__law_word ?k__law_word ?a__law_is ?l__law_is ?c__law_is ?k__law_is ?a__law_same ?l__law_same ?c__law_same ?k__law_same ?a__law_sizes ?l__law_sizes ?c__law_sizes ?k__law_sizes ?a__law_rows ?l__law_rows ?c__law_rows ?k__law_rows ?a__law_roots ?l__law_roots ?c__law_roots ?k__law_roots ?a__law_space ?l__law_space ?c__law_space ?k__law_space ?a__law_kept ?l__law_kept ?c__law_kept ?k__law_kept ?a__law_order ?l__law_order ?c__law_order ?k__law_order ?a__law_turned ?l__law_turned ?c__law_turned ?k__law_turned ?a__law_twin ?l__law_twin ?c__law_twin ?k__law_twin ?a__law_change ?l__law_change ?c__law_change ?k__law_change ?a__law_walk ?l__law_walk ?c__law_walk ?k__law_walk ?a__law_thing ?l__law_thing ?c__law_thing ?k__law_thing ?a__law_rows_fit ?l__law_rows_fit ?c__law_rows_fit ?k__law_rows_fit ?a__law_pairs_hold ?l__law_pairs_hold ?c__law_pairs_hold ?k__law_pairs_hold ?a__law_holds ?l__law_holds ?c__law_holds ?k__law_holds ?a__law_due ?l__law_due ?c__law_due ?k__law_due ?a__law_tuple_is ?l__law_tuple_is ?c__law_tuple_is ?k__law_tuple_is ?a__law_path ?l__law_path ?c__law_path ?k__law_path ?a__law_verdict ?l__law_verdict ?c__law_verdict ?k__law_verdict ?a__law_built ?l__law_built ?c__law_built ?k__law_built ?a_law ?l_law ?c_law ?k_law ?al_collect_collecting) hmg KX ?hP
    (case z_all => first | k_is | ks_is | rfl | decide +kernel)
    (case z_bool => first | k_is | ks_is | rfl | decide +kernel)
    (case z_int => first | k_is | ks_is | rfl | decide +kernel)
    (case z_isinstance => first | k_is | ks_is | rfl | decide +kernel)
    (case z_len => first | k_is | ks_is | rfl | decide +kernel)
    (case z_list => first | k_is | ks_is | rfl | decide +kernel)
    (case z_min => first | k_is | ks_is | rfl | decide +kernel)
    (case z_range => first | k_is | ks_is | rfl | decide +kernel)
    (case z_sorted => first | k_is | ks_is | rfl | decide +kernel)
    (case z_str => first | k_is | ks_is | rfl | decide +kernel)
    (case z_tuple => first | k_is | ks_is | rfl | decide +kernel)
    (case z_zip => first | k_is | ks_is | rfl | decide +kernel)
    (case c_NIL => first | k_is | ks_is | rfl | decide +kernel)
    (case c_HEADER => first | k_is | ks_is | rfl | decide +kernel)
    (case c_ROOTS => first | k_is | ks_is | rfl | decide +kernel)
    (case cl_Comparison => first | k_is | ks_is | rfl | decide +kernel)
    (case pg_Comparison => first | k_is | ks_is | rfl | decide +kernel)
    (case hd_Comparison => first | k_is | ks_is | rfl | decide +kernel)
    (case po_Comparison => first | k_is | ks_is | rfl | decide +kernel)
    (case sa_Comparison => first | k_is | ks_is | rfl | decide +kernel)
    (case mk_Comparison => first | k_is | ks_is | rfl | decide +kernel)
    (case kp_Comparison => first | k_is | ks_is | rfl | decide +kernel)
    (case na_Comparison_one => first | k_is | ks_is | rfl | decide +kernel)
    (case na_Comparison_other => first | k_is | ks_is | rfl | decide +kernel)
    (case na_Comparison_there => first | k_is | ks_is | rfl | decide +kernel)
    (case na_Comparison_back => first | k_is | ks_is | rfl | decide +kernel)
    (case na_Comparison_first => first | k_is | ks_is | rfl | decide +kernel)
    (case cl_Store => first | k_is | ks_is | rfl | decide +kernel)
    (case pg_Store => first | k_is | ks_is | rfl | decide +kernel)
    (case hd_Store => first | k_is | ks_is | rfl | decide +kernel)
    (case po_Store => first | k_is | ks_is | rfl | decide +kernel)
    (case sa_Store => first | k_is | ks_is | rfl | decide +kernel)
    (case mk_Store => first | k_is | ks_is | rfl | decide +kernel)
    (case kp_Store => first | k_is | ks_is | rfl | decide +kernel)
    (case na_Store_room => first | k_is | ks_is | rfl | decide +kernel)
    (case na_Store_entries => first | k_is | ks_is | rfl | decide +kernel)
    (case na_Store_words => first | k_is | ks_is | rfl | decide +kernel)
    (case na_Store__places => first | k_is | ks_is | rfl | decide +kernel)
    (case na_Store__least => first | k_is | ks_is | rfl | decide +kernel)
    (case cl_Space => first | k_is | ks_is | rfl | decide +kernel)
    (case pg_Space => first | k_is | ks_is | rfl | decide +kernel)
    (case hd_Space => first | k_is | ks_is | rfl | decide +kernel)
    (case po_Space => first | k_is | ks_is | rfl | decide +kernel)
    (case sa_Space => first | k_is | ks_is | rfl | decide +kernel)
    (case mk_Space => first | k_is | ks_is | rfl | decide +kernel)
    (case kp_Space => first | k_is | ks_is | rfl | decide +kernel)
    (case na_Space_store => first | k_is | ks_is | rfl | decide +kernel)
    (case na_Space_pressure => first | k_is | ks_is | rfl | decide +kernel)
    (case na_Space_always => first | k_is | ks_is | rfl | decide +kernel)
    (case na_Space_allocations => first | k_is | ks_is | rfl | decide +kernel)
    (case na_Space_collections => first | k_is | ks_is | rfl | decide +kernel)
    (case na_Space__roots => first | k_is | ks_is | rfl | decide +kernel)
    (case na_Space__held => first | k_is | ks_is | rfl | decide +kernel)
    (case na_Space__saved => first | k_is | ks_is | rfl | decide +kernel)
    (case a_is_ref => first | k_is | ks_is | rfl | decide +kernel)
    (case l_is_ref => first | k_is | ks_is | rfl | decide +kernel)
    (case c_is_ref => first | k_is | ks_is | rfl | decide +kernel)
    (case k_is_ref => first | k_is | ks_is | rfl | decide +kernel)
    (case a_ref_of => first | k_is | ks_is | rfl | decide +kernel)
    (case l_ref_of => first | k_is | ks_is | rfl | decide +kernel)
    (case c_ref_of => first | k_is | ks_is | rfl | decide +kernel)
    (case k_ref_of => first | k_is | ks_is | rfl | decide +kernel)
    (case a_reached => first | k_is | ks_is | rfl | decide +kernel)
    (case l_reached => first | k_is | ks_is | rfl | decide +kernel)
    (case c_reached => first | k_is | ks_is | rfl | decide +kernel)
    (case k_reached => first | k_is | ks_is | rfl | decide +kernel)
    (case a_collect => first | k_is | ks_is | rfl | decide +kernel)
    (case l_collect => first | k_is | ks_is | rfl | decide +kernel)
    (case c_collect => first | k_is | ks_is | rfl | decide +kernel)
    (case k_collect => first | k_is | ks_is | rfl | decide +kernel)
    (case a_object_of => first | k_is | ks_is | rfl | decide +kernel)
    (case l_object_of => first | k_is | ks_is | rfl | decide +kernel)
    (case c_object_of => first | k_is | ks_is | rfl | decide +kernel)
    (case k_object_of => first | k_is | ks_is | rfl | decide +kernel)
    (case a_row_of => first | k_is | ks_is | rfl | decide +kernel)
    (case l_row_of => first | k_is | ks_is | rfl | decide +kernel)
    (case c_row_of => first | k_is | ks_is | rfl | decide +kernel)
    (case k_row_of => first | k_is | ks_is | rfl | decide +kernel)
    (case a_word_at => first | k_is | ks_is | rfl | decide +kernel)
    (case l_word_at => first | k_is | ks_is | rfl | decide +kernel)
    (case c_word_at => first | k_is | ks_is | rfl | decide +kernel)
    (case k_word_at => first | k_is | ks_is | rfl | decide +kernel)
    (case a_Comparison___init__ => first | k_is | ks_is | rfl | decide +kernel)
    (case l_Comparison___init__ => first | k_is | ks_is | rfl | decide +kernel)
    (case c_Comparison___init__ => first | k_is | ks_is | rfl | decide +kernel)
    (case k_Comparison___init__ => first | k_is | ks_is | rfl | decide +kernel)
    (case fn_Comparison___init__ => first | k_is | ks_is | rfl | decide +kernel)
    (case a_Comparison_clash => first | k_is | ks_is | rfl | decide +kernel)
    (case l_Comparison_clash => first | k_is | ks_is | rfl | decide +kernel)
    (case c_Comparison_clash => first | k_is | ks_is | rfl | decide +kernel)
    (case k_Comparison_clash => first | k_is | ks_is | rfl | decide +kernel)
    (case fn_Comparison_clash => first | k_is | ks_is | rfl | decide +kernel)
    (case a_Comparison_met => first | k_is | ks_is | rfl | decide +kernel)
    (case l_Comparison_met => first | k_is | ks_is | rfl | decide +kernel)
    (case c_Comparison_met => first | k_is | ks_is | rfl | decide +kernel)
    (case k_Comparison_met => first | k_is | ks_is | rfl | decide +kernel)
    (case fn_Comparison_met => first | k_is | ks_is | rfl | decide +kernel)
    (case a_Comparison_verdict => first | k_is | ks_is | rfl | decide +kernel)
    (case l_Comparison_verdict => first | k_is | ks_is | rfl | decide +kernel)
    (case c_Comparison_verdict => first | k_is | ks_is | rfl | decide +kernel)
    (case k_Comparison_verdict => first | k_is | ks_is | rfl | decide +kernel)
    (case fn_Comparison_verdict => first | k_is | ks_is | rfl | decide +kernel)
    (case a_following => first | k_is | ks_is | rfl | decide +kernel)
    (case l_following => first | k_is | ks_is | rfl | decide +kernel)
    (case c_following => first | k_is | ks_is | rfl | decide +kernel)
    (case k_following => first | k_is | ks_is | rfl | decide +kernel)
    (case a_compare => first | k_is | ks_is | rfl | decide +kernel)
    (case l_compare => first | k_is | ks_is | rfl | decide +kernel)
    (case c_compare => first | k_is | ks_is | rfl | decide +kernel)
    (case k_compare => first | k_is | ks_is | rfl | decide +kernel)
    (case a_both_at => first | k_is | ks_is | rfl | decide +kernel)
    (case l_both_at => first | k_is | ks_is | rfl | decide +kernel)
    (case c_both_at => first | k_is | ks_is | rfl | decide +kernel)
    (case k_both_at => first | k_is | ks_is | rfl | decide +kernel)
    (case a_words_differ => first | k_is | ks_is | rfl | decide +kernel)
    (case l_words_differ => first | k_is | ks_is | rfl | decide +kernel)
    (case c_words_differ => first | k_is | ks_is | rfl | decide +kernel)
    (case k_words_differ => first | k_is | ks_is | rfl | decide +kernel)
    (case a_sizes_differ => first | k_is | ks_is | rfl | decide +kernel)
    (case l_sizes_differ => first | k_is | ks_is | rfl | decide +kernel)
    (case c_sizes_differ => first | k_is | ks_is | rfl | decide +kernel)
    (case k_sizes_differ => first | k_is | ks_is | rfl | decide +kernel)
    (case a_sharing_differs => first | k_is | ks_is | rfl | decide +kernel)
    (case l_sharing_differs => first | k_is | ks_is | rfl | decide +kernel)
    (case c_sharing_differs => first | k_is | ks_is | rfl | decide +kernel)
    (case k_sharing_differs => first | k_is | ks_is | rfl | decide +kernel)
    (case a_rows_match => first | k_is | ks_is | rfl | decide +kernel)
    (case l_rows_match => first | k_is | ks_is | rfl | decide +kernel)
    (case c_rows_match => first | k_is | ks_is | rfl | decide +kernel)
    (case k_rows_match => first | k_is | ks_is | rfl | decide +kernel)
    (case a_pairs_match => first | k_is | ks_is | rfl | decide +kernel)
    (case l_pairs_match => first | k_is | ks_is | rfl | decide +kernel)
    (case c_pairs_match => first | k_is | ks_is | rfl | decide +kernel)
    (case k_pairs_match => first | k_is | ks_is | rfl | decide +kernel)
    (case a_judge => first | k_is | ks_is | rfl | decide +kernel)
    (case l_judge => first | k_is | ks_is | rfl | decide +kernel)
    (case c_judge => first | k_is | ks_is | rfl | decide +kernel)
    (case k_judge => first | k_is | ks_is | rfl | decide +kernel)
    (case a_Store___init__ => first | k_is | ks_is | rfl | decide +kernel)
    (case l_Store___init__ => first | k_is | ks_is | rfl | decide +kernel)
    (case c_Store___init__ => first | k_is | ks_is | rfl | decide +kernel)
    (case k_Store___init__ => first | k_is | ks_is | rfl | decide +kernel)
    (case fn_Store___init__ => first | k_is | ks_is | rfl | decide +kernel)
    (case a_Store_exists => first | k_is | ks_is | rfl | decide +kernel)
    (case l_Store_exists => first | k_is | ks_is | rfl | decide +kernel)
    (case c_Store_exists => first | k_is | ks_is | rfl | decide +kernel)
    (case k_Store_exists => first | k_is | ks_is | rfl | decide +kernel)
    (case fn_Store_exists => first | k_is | ks_is | rfl | decide +kernel)
    (case a_Store_numbers => first | k_is | ks_is | rfl | decide +kernel)
    (case l_Store_numbers => first | k_is | ks_is | rfl | decide +kernel)
    (case c_Store_numbers => first | k_is | ks_is | rfl | decide +kernel)
    (case k_Store_numbers => first | k_is | ks_is | rfl | decide +kernel)
    (case fn_Store_numbers => first | k_is | ks_is | rfl | decide +kernel)
    (case a_Store_free_number => first | k_is | ks_is | rfl | decide +kernel)
    (case l_Store_free_number => first | k_is | ks_is | rfl | decide +kernel)
    (case c_Store_free_number => first | k_is | ks_is | rfl | decide +kernel)
    (case k_Store_free_number => first | k_is | ks_is | rfl | decide +kernel)
    (case fn_Store_free_number => first | k_is | ks_is | rfl | decide +kernel)
    (case a_Store_allocate => first | k_is | ks_is | rfl | decide +kernel)
    (case l_Store_allocate => first | k_is | ks_is | rfl | decide +kernel)
    (case c_Store_allocate => first | k_is | ks_is | rfl | decide +kernel)
    (case k_Store_allocate => first | k_is | ks_is | rfl | decide +kernel)
    (case fn_Store_allocate => first | k_is | ks_is | rfl | decide +kernel)
    (case a_Store_size => first | k_is | ks_is | rfl | decide +kernel)
    (case l_Store_size => first | k_is | ks_is | rfl | decide +kernel)
    (case c_Store_size => first | k_is | ks_is | rfl | decide +kernel)
    (case k_Store_size => first | k_is | ks_is | rfl | decide +kernel)
    (case fn_Store_size => first | k_is | ks_is | rfl | decide +kernel)
    (case a_Store_kind => first | k_is | ks_is | rfl | decide +kernel)
    (case l_Store_kind => first | k_is | ks_is | rfl | decide +kernel)
    (case c_Store_kind => first | k_is | ks_is | rfl | decide +kernel)
    (case k_Store_kind => first | k_is | ks_is | rfl | decide +kernel)
    (case fn_Store_kind => first | k_is | ks_is | rfl | decide +kernel)
    (case a_Store_put => first | k_is | ks_is | rfl | decide +kernel)
    (case l_Store_put => first | k_is | ks_is | rfl | decide +kernel)
    (case c_Store_put => first | k_is | ks_is | rfl | decide +kernel)
    (case k_Store_put => first | k_is | ks_is | rfl | decide +kernel)
    (case fn_Store_put => first | k_is | ks_is | rfl | decide +kernel)
    (case a_Store_slots => first | k_is | ks_is | rfl | decide +kernel)
    (case l_Store_slots => first | k_is | ks_is | rfl | decide +kernel)
    (case c_Store_slots => first | k_is | ks_is | rfl | decide +kernel)
    (case k_Store_slots => first | k_is | ks_is | rfl | decide +kernel)
    (case fn_Store_slots => first | k_is | ks_is | rfl | decide +kernel)
    (case a_Store_drop => first | k_is | ks_is | rfl | decide +kernel)
    (case l_Store_drop => first | k_is | ks_is | rfl | decide +kernel)
    (case c_Store_drop => first | k_is | ks_is | rfl | decide +kernel)
    (case k_Store_drop => first | k_is | ks_is | rfl | decide +kernel)
    (case fn_Store_drop => first | k_is | ks_is | rfl | decide +kernel)
    (case a_Store_close_up => first | k_is | ks_is | rfl | decide +kernel)
    (case l_Store_close_up => first | k_is | ks_is | rfl | decide +kernel)
    (case c_Store_close_up => first | k_is | ks_is | rfl | decide +kernel)
    (case k_Store_close_up => first | k_is | ks_is | rfl | decide +kernel)
    (case x1_Store_close_up => first | k_is | ks_is | rfl | decide +kernel)
    (case x2_Store_close_up => first | k_is | ks_is | rfl | decide +kernel)
    (case x3_Store_close_up => first | k_is | ks_is | rfl | decide +kernel)
    (case x4_Store_close_up => first | k_is | ks_is | rfl | decide +kernel)
    (case fn_Store_close_up => first | k_is | ks_is | rfl | decide +kernel)
    (case a_Store_exchange => first | k_is | ks_is | rfl | decide +kernel)
    (case l_Store_exchange => first | k_is | ks_is | rfl | decide +kernel)
    (case c_Store_exchange => first | k_is | ks_is | rfl | decide +kernel)
    (case k_Store_exchange => first | k_is | ks_is | rfl | decide +kernel)
    (case fn_Store_exchange => first | k_is | ks_is | rfl | decide +kernel)
    (case a_Space___init__ => first | k_is | ks_is | rfl | decide +kernel)
    (case l_Space___init__ => first | k_is | ks_is | rfl | decide +kernel)
    (case c_Space___init__ => first | k_is | ks_is | rfl | decide +kernel)
    (case k_Space___init__ => first | k_is | ks_is | rfl | decide +kernel)
    (case fn_Space___init__ => first | k_is | ks_is | rfl | decide +kernel)
    (case a_Space_set_root => first | k_is | ks_is | rfl | decide +kernel)
    (case l_Space_set_root => first | k_is | ks_is | rfl | decide +kernel)
    (case c_Space_set_root => first | k_is | ks_is | rfl | decide +kernel)
    (case k_Space_set_root => first | k_is | ks_is | rfl | decide +kernel)
    (case fn_Space_set_root => first | k_is | ks_is | rfl | decide +kernel)
    (case a_Space_hold => first | k_is | ks_is | rfl | decide +kernel)
    (case l_Space_hold => first | k_is | ks_is | rfl | decide +kernel)
    (case c_Space_hold => first | k_is | ks_is | rfl | decide +kernel)
    (case k_Space_hold => first | k_is | ks_is | rfl | decide +kernel)
    (case fn_Space_hold => first | k_is | ks_is | rfl | decide +kernel)
    (case a_Space_held => first | k_is | ks_is | rfl | decide +kernel)
    (case l_Space_held => first | k_is | ks_is | rfl | decide +kernel)
    (case c_Space_held => first | k_is | ks_is | rfl | decide +kernel)
    (case k_Space_held => first | k_is | ks_is | rfl | decide +kernel)
    (case fn_Space_held => first | k_is | ks_is | rfl | decide +kernel)
    (case a_Space_all_roots => first | k_is | ks_is | rfl | decide +kernel)
    (case l_Space_all_roots => first | k_is | ks_is | rfl | decide +kernel)
    (case c_Space_all_roots => first | k_is | ks_is | rfl | decide +kernel)
    (case k_Space_all_roots => first | k_is | ks_is | rfl | decide +kernel)
    (case fn_Space_all_roots => first | k_is | ks_is | rfl | decide +kernel)
    (case a_Space_collect => first | k_is | ks_is | rfl | decide +kernel)
    (case l_Space_collect => first | k_is | ks_is | rfl | decide +kernel)
    (case c_Space_collect => first | k_is | ks_is | rfl | decide +kernel)
    (case k_Space_collect => first | k_is | ks_is | rfl | decide +kernel)
    (case fn_Space_collect => first | k_is | ks_is | rfl | decide +kernel)
    (case a_Space_collect_with => first | k_is | ks_is | rfl | decide +kernel)
    (case l_Space_collect_with => first | k_is | ks_is | rfl | decide +kernel)
    (case c_Space_collect_with => first | k_is | ks_is | rfl | decide +kernel)
    (case k_Space_collect_with => first | k_is | ks_is | rfl | decide +kernel)
    (case fn_Space_collect_with => first | k_is | ks_is | rfl | decide +kernel)
    (case a_Space_new => first | k_is | ks_is | rfl | decide +kernel)
    (case l_Space_new => first | k_is | ks_is | rfl | decide +kernel)
    (case c_Space_new => first | k_is | ks_is | rfl | decide +kernel)
    (case k_Space_new => first | k_is | ks_is | rfl | decide +kernel)
    (case fn_Space_new => first | k_is | ks_is | rfl | decide +kernel)
    (case a_Space_fitted => first | k_is | ks_is | rfl | decide +kernel)
    (case l_Space_fitted => first | k_is | ks_is | rfl | decide +kernel)
    (case c_Space_fitted => first | k_is | ks_is | rfl | decide +kernel)
    (case k_Space_fitted => first | k_is | ks_is | rfl | decide +kernel)
    (case fn_Space_fitted => first | k_is | ks_is | rfl | decide +kernel)
    (case a__law_number => first | k_is | ks_is | rfl | decide +kernel)
    (case l__law_number => first | k_is | ks_is | rfl | decide +kernel)
    (case c__law_number => first | k_is | ks_is | rfl | decide +kernel)
    (case k__law_number => first | k_is | ks_is | rfl | decide +kernel)
    (case a__law_word => first | k_is | ks_is | rfl | decide +kernel)
    (case l__law_word => first | k_is | ks_is | rfl | decide +kernel)
    (case c__law_word => first | k_is | ks_is | rfl | decide +kernel)
    (case k__law_word => first | k_is | ks_is | rfl | decide +kernel)
    (case a__law_is => first | k_is | ks_is | rfl | decide +kernel)
    (case l__law_is => first | k_is | ks_is | rfl | decide +kernel)
    (case c__law_is => first | k_is | ks_is | rfl | decide +kernel)
    (case k__law_is => first | k_is | ks_is | rfl | decide +kernel)
    (case a__law_same => first | k_is | ks_is | rfl | decide +kernel)
    (case l__law_same => first | k_is | ks_is | rfl | decide +kernel)
    (case c__law_same => first | k_is | ks_is | rfl | decide +kernel)
    (case k__law_same => first | k_is | ks_is | rfl | decide +kernel)
    (case a__law_sizes => first | k_is | ks_is | rfl | decide +kernel)
    (case l__law_sizes => first | k_is | ks_is | rfl | decide +kernel)
    (case c__law_sizes => first | k_is | ks_is | rfl | decide +kernel)
    (case k__law_sizes => first | k_is | ks_is | rfl | decide +kernel)
    (case a__law_rows => first | k_is | ks_is | rfl | decide +kernel)
    (case l__law_rows => first | k_is | ks_is | rfl | decide +kernel)
    (case c__law_rows => first | k_is | ks_is | rfl | decide +kernel)
    (case k__law_rows => first | k_is | ks_is | rfl | decide +kernel)
    (case a__law_roots => first | k_is | ks_is | rfl | decide +kernel)
    (case l__law_roots => first | k_is | ks_is | rfl | decide +kernel)
    (case c__law_roots => first | k_is | ks_is | rfl | decide +kernel)
    (case k__law_roots => first | k_is | ks_is | rfl | decide +kernel)
    (case a__law_space => first | k_is | ks_is | rfl | decide +kernel)
    (case l__law_space => first | k_is | ks_is | rfl | decide +kernel)
    (case c__law_space => first | k_is | ks_is | rfl | decide +kernel)
    (case k__law_space => first | k_is | ks_is | rfl | decide +kernel)
    (case a__law_kept => first | k_is | ks_is | rfl | decide +kernel)
    (case l__law_kept => first | k_is | ks_is | rfl | decide +kernel)
    (case c__law_kept => first | k_is | ks_is | rfl | decide +kernel)
    (case k__law_kept => first | k_is | ks_is | rfl | decide +kernel)
    (case a__law_order => first | k_is | ks_is | rfl | decide +kernel)
    (case l__law_order => first | k_is | ks_is | rfl | decide +kernel)
    (case c__law_order => first | k_is | ks_is | rfl | decide +kernel)
    (case k__law_order => first | k_is | ks_is | rfl | decide +kernel)
    (case a__law_turned => first | k_is | ks_is | rfl | decide +kernel)
    (case l__law_turned => first | k_is | ks_is | rfl | decide +kernel)
    (case c__law_turned => first | k_is | ks_is | rfl | decide +kernel)
    (case k__law_turned => first | k_is | ks_is | rfl | decide +kernel)
    (case a__law_twin => first | k_is | ks_is | rfl | decide +kernel)
    (case l__law_twin => first | k_is | ks_is | rfl | decide +kernel)
    (case c__law_twin => first | k_is | ks_is | rfl | decide +kernel)
    (case k__law_twin => first | k_is | ks_is | rfl | decide +kernel)
    (case a__law_change => first | k_is | ks_is | rfl | decide +kernel)
    (case l__law_change => first | k_is | ks_is | rfl | decide +kernel)
    (case c__law_change => first | k_is | ks_is | rfl | decide +kernel)
    (case k__law_change => first | k_is | ks_is | rfl | decide +kernel)
    (case a__law_walk => first | k_is | ks_is | rfl | decide +kernel)
    (case l__law_walk => first | k_is | ks_is | rfl | decide +kernel)
    (case c__law_walk => first | k_is | ks_is | rfl | decide +kernel)
    (case k__law_walk => first | k_is | ks_is | rfl | decide +kernel)
    (case a__law_thing => first | k_is | ks_is | rfl | decide +kernel)
    (case l__law_thing => first | k_is | ks_is | rfl | decide +kernel)
    (case c__law_thing => first | k_is | ks_is | rfl | decide +kernel)
    (case k__law_thing => first | k_is | ks_is | rfl | decide +kernel)
    (case a__law_rows_fit => first | k_is | ks_is | rfl | decide +kernel)
    (case l__law_rows_fit => first | k_is | ks_is | rfl | decide +kernel)
    (case c__law_rows_fit => first | k_is | ks_is | rfl | decide +kernel)
    (case k__law_rows_fit => first | k_is | ks_is | rfl | decide +kernel)
    (case a__law_pairs_hold => first | k_is | ks_is | rfl | decide +kernel)
    (case l__law_pairs_hold => first | k_is | ks_is | rfl | decide +kernel)
    (case c__law_pairs_hold => first | k_is | ks_is | rfl | decide +kernel)
    (case k__law_pairs_hold => first | k_is | ks_is | rfl | decide +kernel)
    (case a__law_holds => first | k_is | ks_is | rfl | decide +kernel)
    (case l__law_holds => first | k_is | ks_is | rfl | decide +kernel)
    (case c__law_holds => first | k_is | ks_is | rfl | decide +kernel)
    (case k__law_holds => first | k_is | ks_is | rfl | decide +kernel)
    (case a__law_due => first | k_is | ks_is | rfl | decide +kernel)
    (case l__law_due => first | k_is | ks_is | rfl | decide +kernel)
    (case c__law_due => first | k_is | ks_is | rfl | decide +kernel)
    (case k__law_due => first | k_is | ks_is | rfl | decide +kernel)
    (case a__law_tuple_is => first | k_is | ks_is | rfl | decide +kernel)
    (case l__law_tuple_is => first | k_is | ks_is | rfl | decide +kernel)
    (case c__law_tuple_is => first | k_is | ks_is | rfl | decide +kernel)
    (case k__law_tuple_is => first | k_is | ks_is | rfl | decide +kernel)
    (case a__law_path => first | k_is | ks_is | rfl | decide +kernel)
    (case l__law_path => first | k_is | ks_is | rfl | decide +kernel)
    (case c__law_path => first | k_is | ks_is | rfl | decide +kernel)
    (case k__law_path => first | k_is | ks_is | rfl | decide +kernel)
    (case a__law_verdict => first | k_is | ks_is | rfl | decide +kernel)
    (case l__law_verdict => first | k_is | ks_is | rfl | decide +kernel)
    (case c__law_verdict => first | k_is | ks_is | rfl | decide +kernel)
    (case k__law_verdict => first | k_is | ks_is | rfl | decide +kernel)
    (case a__law_built => first | k_is | ks_is | rfl | decide +kernel)
    (case l__law_built => first | k_is | ks_is | rfl | decide +kernel)
    (case c__law_built => first | k_is | ks_is | rfl | decide +kernel)
    (case k__law_built => first | k_is | ks_is | rfl | decide +kernel)
    (case a_law => first | k_is | ks_is | rfl | decide +kernel)
    (case l_law => first | k_is | ks_is | rfl | decide +kernel)
    (case c_law => first | k_is | ks_is | rfl | decide +kernel)
    (case k_law => first | k_is | ks_is | rfl | decide +kernel)
    (case al_collect_collecting => first | k_is | ks_is | rfl | decide +kernel)
    (case hP => exact PySem.W.km_tabs_of Y _ (by first | k_mem | simp))
    all_goals exact PySem.Value.none

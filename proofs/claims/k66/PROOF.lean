import PyProof.Rows.All
import Wide.All
import OpenK.AllK
import Wide.FinOn
import KE.KExcSuper
import HandS.ForMost
import HandS.ForExc
import HandS.ExcInit
import HandS.Nested
import HandS.Flow
import HandS.IsInst
import HandS.Wide
import HandS.StrMore
import HandS.RaiseMore
import HandS.TupAny
import HandS.Style
import HandS.NoneIn
import HandS.Conv
import HandS.Deep
import HandS.Small
import HandS.Evl
import HandS.SortInts
import HandS.More
import KE.SortData
import HandS.Lambda
import HandS.EndTab
import KE.SortKeyHeap
import KE.KSortKey
import HandS.Strs
import HandS.SetBool
import HandS.Zip
import HandS.DictComp
import KE.DataEq
import PySem.Challenge.RW_saggar_k66_whole_owners
set_option Elab.async false
set_option linter.all false
set_option maxRecDepth 100000
set_option maxHeartbeats 4000000
/-! universal rules: by the values' constructors -/
namespace LX
open PySem PySem.Spec PyProof.Rows L2
section
variable {X : Cx}
/-! ### operators -/
def rAddU (K : PySem.W.Frag) : R2 := fun x y H Q => match x, y with
  | .int i, .int j => Q (.int (i + j)) H
  | .str i, .str j => i.length + j.length ≤ sizeLine ∧ Q (.str (i ++ j)) H
  | .ref a, .ref b => rCat (.ref a) (.ref b) H Q ∨ rCatA K (.ref a) (.ref b) H Q
  | _, _ => False
theorem op_addU : OpR X (binaryOp .Add) (rAddU X.K) := by
  intro pins s σ H x y v u Q I rx ry h
  unfold rAddU at h
  split at h
  · exact op_add pins s σ H _ _ v u Q I rx ry ⟨_, _, rfl, rfl, h⟩
  · exact op_add_str pins s σ H _ _ v u Q I rx ry ⟨_, _, rfl, rfl, h.1, h.2⟩
  · rcases h with h | h
    · exact op_cat pins s σ H _ _ v u Q I rx ry h
    · exact op_catA pins s σ H _ _ v u Q I rx ry h
  · exact h.elim
def rMulU : R2 := fun x y H Q => match x, y with
  | .int i, .int j => CMul i j ∧ Q (.int (i * j)) H
  | .ref a, .int j => rRep (.ref a) (.int j) H Q
  | _, _ => False
theorem op_mulU : OpR X (binaryOp .Mult) rMulU := by
  intro pins s σ H x y v u Q I rx ry h
  unfold rMulU at h
  split at h
  · exact op_mul pins s σ H _ _ v u Q I rx ry ⟨_, _, rfl, rfl, h.1, h.2⟩
  · exact op_rep pins s σ H _ _ v u Q I rx ry h
  · exact h.elim
/-- an order by ints, by texts -/
def rOrd (f : Int → Int → Bool) (g : List Nat → List Nat → Bool) : R2 := fun x y H Q => match x, y with
  | .int i, .int j => Q (.bl (f i j)) H
  | .str i, .str j => Q (.bl (g i.cps.toList j.cps.toList)) H
  | _, _ => False
abbrev rLtU : R2 := rOrd (fun i j => decide (i < j)) (fun i j => decide (i < j))
abbrev rLeU : R2 := rOrd (fun i j => decide (i ≤ j)) (fun i j => !decide (j < i))
abbrev rGtU : R2 := rOrd (fun i j => decide (j < i)) (fun i j => decide (j < i))
abbrev rGeU : R2 := rOrd (fun i j => decide (j ≤ i)) (fun i j => !decide (i < j))
theorem op_ltU : OpR X (compareOp .Lt) rLtU := by
  intro pins s σ H x y v u Q I rx ry h
  unfold rLtU rOrd at h
  split at h
  · exact op_lt pins s σ H _ _ v u Q I rx ry ⟨_, _, rfl, rfl, h⟩
  · exact op_lt_str pins s σ H _ _ v u Q I rx ry ⟨_, _, rfl, rfl, h⟩
  · exact h.elim
theorem op_leU : OpR X (compareOp .LtE) rLeU := by
  intro pins s σ H x y v u Q I rx ry h
  unfold rLeU rOrd at h
  split at h
  · exact op_le pins s σ H _ _ v u Q I rx ry ⟨_, _, rfl, rfl, h⟩
  · exact op_le_str pins s σ H _ _ v u Q I rx ry ⟨_, _, rfl, rfl, h⟩
  · exact h.elim
theorem op_gtU : OpR X (compareOp .Gt) rGtU := by
  intro pins s σ H x y v u Q I rx ry h
  unfold rGtU rOrd at h
  split at h
  · exact op_gt pins s σ H _ _ v u Q I rx ry ⟨_, _, rfl, rfl, h⟩
  · exact op_gt_str pins s σ H _ _ v u Q I rx ry ⟨_, _, rfl, rfl, h⟩
  · exact h.elim
theorem op_geU : OpR X (compareOp .GtE) rGeU := by
  intro pins s σ H x y v u Q I rx ry h
  unfold rGeU rOrd at h
  split at h
  · exact op_ge pins s σ H _ _ v u Q I rx ry ⟨_, _, rfl, rfl, h⟩
  · exact op_ge_str pins s σ H _ _ v u Q I rx ry ⟨_, _, rfl, rfl, h⟩
  · exact h.elim
/-- ==, != : two objects (deep), else by value -/
def rEqU (K : PySem.W.Frag) (g : Bool → Bool) : R2 := fun x y H Q => match x, y with
  | .ref a, .ref b => ∃ d e, Dp K H (.ref a) d ∧ Dp K H (.ref b) e ∧ SeqAt.shaped d = true ∧ SeqAt.shaped e = true ∧ Q (.bl (g (PyData.eqv d e))) H
  | x, y => scal x y = true ∧ Q (.bl (g (decide (x = y)))) H
theorem op_eqU (hu : X.A.units + 64 < cLine) : OpR X (compareOp .Eq) (rEqU X.K id) := by
  intro pins s σ H x y v u Q I rx ry h
  unfold rEqU at h
  split at h
  · exact op_eqD hu pins s σ H _ _ v u Q I rx ry h
  · exact op_eq pins s σ H _ _ v u Q I rx ry h
theorem op_neU (hu : X.A.units + 64 < cLine) : OpR X (compareOp .NotEq) (rEqU X.K (!·)) := by
  intro pins s σ H x y v u Q I rx ry h
  unfold rEqU at h
  split at h
  · exact op_neD hu pins s σ H _ _ v u Q I rx ry h
  · exact op_ne pins s σ H _ _ v u Q I rx ry h
/-- x is None, True, False -/
def rIsU (g : Bool → Bool) : R2 := fun x y H Q => match y with
  | .non => Q (.bl (g (decide (x = .non)))) H
  | .bl b => Q (.bl (g (decide (x = .bl b)))) H
  | _ => False
theorem op_isU : OpR X (compareOp .Is) (rIsU id) := by
  intro pins s σ H x y v u Q I rx ry h
  unfold rIsU at h
  split at h
  · exact op_isN pins s σ H _ _ v u Q I rx ry ⟨rfl, h⟩
  · rename_i b
    cases (show u = Value.bool b from ry)
    by_cases e : x = .bl b
    · subst e
      cases (show v = Value.bool b from rx)
      exact wpAny_is_self rfl ⟨.bl true, H, I, rfl, by simpa using h⟩
    · refine wpAny_is_other ?_ ?_ ⟨.bl false, H, I, rfl, by simpa [e] using h⟩
      · first | rfl | (cases x <;> first | rfl | (cases rx; rfl) | (obtain ⟨t, rfl⟩ := rx; rfl))
      · intro z
        subst z
        exact e (RelV.inj rx rfl)
  · exact h.elim
theorem op_isnotU : OpR X (compareOp .IsNot) (rIsU (!·)) := by
  intro pins s σ H x y v u Q I rx ry h
  unfold rIsU at h
  split at h
  · exact op_notN pins s σ H _ _ v u Q I rx ry ⟨rfl, h⟩
  · rename_i b
    cases (show u = Value.bool b from ry)
    by_cases e : x = .bl b
    · subst e
      cases (show v = Value.bool b from rx)
      exact wpAny_isNot_self rfl ⟨.bl false, H, I, rfl, by simpa using h⟩
    · refine wpAny_isNot_other ?_ ?_ ⟨.bl true, H, I, rfl, by simpa [e] using h⟩
      · first | rfl | (cases x <;> first | rfl | (cases rx; rfl) | (obtain ⟨t, rfl⟩ := rx; rfl))
      · intro z
        subst z
        exact e (RelV.inj rx rfl)
  · exact h.elim
/-! ### subscripts, slices, in -/
def rIxU (K : PySem.W.Frag) : R2 := fun x y H Q => match x with
  | .str z => ∃ i c, y = .int i ∧ z.length ≤ sizeLine ∧ atI z.cps.toList i = some c ∧ Q (.str ⟨#[c]⟩) H
  | .ref p => (∃ xs i v, y = .int i ∧ (SqL K H p xs ∨ SqT K H p xs) ∧ atI xs i = some v ∧ Q v H) ∨ (∃ v, DGet H p y (some v) ∧ Q v H)
  | _ => False
theorem ix_U (hu : X.A.units + 1 < cLine) : IxR X (rIxU X.K) := by
  intro value slice pins s σ H x y v u Q I rx ry h hs
  unfold rIxU at h
  split at h
  · obtain ⟨i, c, rfl, h1, h2, q⟩ := h
    exact ix_str value slice pins s σ H _ _ v u Q I rx ry ⟨_, _, _, rfl, rfl, h1, h2, q⟩ hs
  · rcases h with ⟨xs, i, w', rfl, h1 | h1, h2, q⟩ | ⟨w', g, q⟩
    · exact ix_list value slice pins s σ H _ _ v u Q I rx ry ⟨_, _, _, _, rfl, rfl, h1, h2, q⟩ hs
    · exact ix_tup value slice pins s σ H _ _ v u Q I rx ry ⟨_, _, _, _, rfl, rfl, h1, h2, q⟩ hs
    · rename_i p
      obtain rfl : v = Value.ref p := rx
      exact tail_any (dict_typeIs I g) PySem.F.slot_dict_getitem.lookup (d_getItem hu I g ry fun w2 s2 I2 rw2 => ⟨w', H, I2, rw2, q⟩) hs
  · exact h.elim
def rSlU (K : PySem.W.Frag) : V → Option Int → Option Int → Hp → VK → Prop := fun x lo hi H Q => match x with
  | .str z => z.length ≤ sizeLine ∧ Q (.str (cutS z lo hi)) H
  | .ref a => rSlL K (.ref a) lo hi H Q ∨ rSlA K (.ref a) lo hi H Q
  | _ => False
theorem sl_U : SlR X (rSlU X.K) := by
  intro pins s σ H x v vl vu lo hi sl Q I rx hs pl pu h
  unfold rSlU at h
  split at h
  · exact sl_str pins s σ H _ v vl vu lo hi sl Q I rx hs pl pu ⟨_, rfl, h.1, h.2⟩
  · rcases h with h | h
    · exact sl_list pins s σ H _ v vl vu lo hi sl Q I rx hs pl pu h
    · exact sl_tupA pins s σ H _ v vl vu lo hi sl Q I rx hs pl pu h
  · exact h.elim
/-- in, not in -/
def rInU (K : PySem.W.Frag) (g : Bool → Bool) : R2 := fun x y H Q => match y with
  | .str z => (∃ c : Nat, x = .str ⟨#[c]⟩ ∧ Q (.bl (g (decide (c ∈ z.cps.toList)))) H) ∨ ∃ i, x = .str i ∧ Q (.bl (g (!(Builtin.Str.occurrences z i 0 z.length 1).isEmpty))) H
  | .ref p => (∃ xs, (SqL K H p xs ∨ SqT K H p xs) ∧ flatV x = true ∧ xs.all flatV = true ∧ Q (.bl (g (inV x xs))) H) ∨ (∃ o, DGet H p x o ∧ Q (.bl (g o.isSome)) H)
  | _ => False
theorem op_inU (hu : X.A.units + 1 < cLine) : OpR X (compareOp .In) (rInU X.K id) := by
  intro pins s σ H x y v u Q I rx ry h
  unfold rInU at h
  split at h
  · rcases h with ⟨c, rfl, q⟩ | ⟨i, rfl, q⟩
    · exact op_in_sign pins s σ H _ _ v u Q I rx ry ⟨_, _, rfl, rfl, q⟩
    · exact op_in_str pins s σ H _ _ v u Q I rx ry ⟨_, _, rfl, rfl, q⟩
  · rcases h with ⟨xs, h1, h2, h3, q⟩ | ⟨o, g, q⟩
    · exact op_in_seq pins s σ H _ _ v u Q I rx ry ⟨_, xs, rfl, h1, h2, h3, q⟩
    · rename_i p
      obtain rfl : u = Value.ref p := ry
      exact d_in hu I g rx fun s3 I3 => ⟨.bl o.isSome, H, I3, rfl, q⟩
  · exact h.elim
theorem op_ninU (hu : X.A.units + 1 < cLine) : OpR X (compareOp .NotIn) (rInU X.K (!·)) := by
  intro pins s σ H x y v u Q I rx ry h
  unfold rInU at h
  split at h
  · rcases h with ⟨c, rfl, q⟩ | ⟨i, rfl, q⟩
    · exact op_notIn_sign pins s σ H _ _ v u Q I rx ry ⟨_, _, rfl, rfl, q⟩
    · exact op_notin_str pins s σ H _ _ v u Q I rx ry ⟨_, _, rfl, rfl, q⟩
  · rcases h with ⟨xs, h1, h2, h3, q⟩ | ⟨o, g, q⟩
    · exact op_notIn_seq pins s σ H _ _ v u Q I rx ry ⟨_, xs, rfl, h1, h2, h3, q⟩
    · rename_i p
      obtain rfl : u = Value.ref p := ry
      exact d_notIn hu I g rx fun s3 I3 => ⟨.bl (!o.isSome), H, I3, rfl, q⟩
  · exact h.elim
/-! ### calls -/
def rLenU (K : PySem.W.Frag) : List V → Hp → VK → Prop := fun xs H Q => match xs with
  | [.str z] => z.length ≤ sizeLine ∧ Q (.int z.length) H
  | [.ref p] => (∃ ys, (SqL K H p ys ∨ SqT K H p ys) ∧ Q (.int ys.length) H) ∨ ∃ kvs, H p = some (.dK kvs) ∧ Q (.int kvs.length) H
  | _ => False
theorem call_lenU : CallR X (.builtin "len") (rLenU X.K) := by
  intro pins s σ H xs us Q I r h
  unfold rLenU at h
  split at h
  · exact call_len_str pins s σ H _ us Q I r ⟨_, rfl, h.1, h.2⟩
  · rcases h with ⟨ys, h1, q⟩ | ⟨kvs, h1, q⟩
    · exact call_len_seq pins s σ H _ us Q I r ⟨_, ys, rfl, h1, q⟩
    · exact call_lenD pins s σ H _ us Q I r ⟨_, kvs, rfl, h1, q⟩
  · exact h.elim
def rIntU : List V → Hp → VK → Prop := fun xs H Q => match xs with
  | [.int i] => Q (.int i) H
  | [.bl k] => Q (.int (if k then 1 else 0)) H
  | [.str a] => ∃ n, PySem.intText? a = some n ∧ a.length ≤ 640 ∧ Q (.int n) H
  | _ => False
theorem call_intU : CallR X (.type "int") rIntU := by
  intro pins s σ H xs us Q I r h
  unfold rIntU at h
  split at h
  · exact call_int1 pins s σ H _ us Q I r (.inl ⟨_, rfl, h⟩)
  · exact call_int1 pins s σ H _ us Q I r (.inr ⟨_, rfl, h⟩)
  · obtain ⟨n, h1, h2, q⟩ := h
    exact call_int_str pins s σ H _ us Q I r ⟨_, n, rfl, h1, h2, q⟩
  · exact h.elim
def rStrU : List V → Hp → VK → Prop := fun xs H Q => match xs with
  | [.int i] => i.natAbs.log2 < 1920 ∧ Q (.str (toString i)) H
  | [.str a] => Q (.str a) H
  | _ => False
theorem call_strU : CallR X (.type "str") rStrU := by
  intro pins s σ H xs us Q I r h
  unfold rStrU at h
  split at h
  · exact call_str_int pins s σ H _ us Q I r ⟨_, rfl, h.1, h.2⟩
  · exact SkE.call_str_str pins s σ H _ us Q I r ⟨_, rfl, h⟩
  · exact h.elim
/-- isinstance: a built-in type or an own class -/
def rIsU2 (K : PySem.W.Frag) : List V → Hp → VK → Prop := fun xs H Q => ∃ (x c : V) (t u : Value) (b : Bool), xs = [x, c] ∧ ClsV c u ∧ TyX K H x t ∧ PySem.W.kitOne K t u = some b ∧ Q (.bl b) H
end
theorem hu64_of {A : Around} {k : Nat} (hr : Room k A) : A.units + 64 < cLine := by have := hr.un; omega
theorem ite_eq {c d : Bool} {A B : Prop} (e : c = d) (h : if d = true then A else B) : if c = true then A else B := by rw [e]; exact h
theorem iteD {c : Prop} [Decidable c] {A B : Prop} (h1 : c → A) (h2 : ¬ c → B) : if decide c = true then A else B := by
  by_cases h : c
  · rw [decide_eq_true h]; exact iteT (h1 h)
  · rw [decide_eq_false h]; exact iteF (h2 h)
theorem iteND {c : Prop} [Decidable c] {A B : Prop} (h1 : ¬ c → A) (h2 : c → B) : if (!decide c) = true then A else B := by
  by_cases h : c
  · rw [decide_eq_true h]; exact iteF (h2 h)
  · rw [decide_eq_false h]; exact iteT (h1 h)
/-- a text by its signs -/
abbrev T (l : List Nat) : Str := ⟨l.toArray⟩
theorem T_of (z : Str) : z = T z.cps.toList := rfl
theorem T_inj {a b : List Nat} (h : T a = T b) : a = b := congrArg (fun x : Str => x.cps.toList) h
theorem T_app (a b : List Nat) : T a ++ T b = T (a ++ b) := by
  show (⟨a.toArray ++ b.toArray⟩ : Str) = ⟨(a ++ b).toArray⟩
  simp
theorem T_dec (a b : List Nat) : decide (V.str (T a) = V.str (T b)) = decide (a = b) := by
  by_cases h : a = b
  · subst h; simp
  · have : ¬ V.str (T a) = V.str (T b) := fun z => h (T_inj (V.str.inj z))
    rw [decide_eq_false this, decide_eq_false h]
theorem I_dec (a b : Int) : decide (V.int a = V.int b) = decide (a = b) := by
  by_cases h : a = b
  · subst h; simp
  · have : ¬ V.int a = V.int b := fun z => h (V.int.inj z)
    rw [decide_eq_false this, decide_eq_false h]
theorem B_dec (a b : Bool) : decide (V.bl a = V.bl b) = (a == b) := by cases a <;> cases b <;> rfl
theorem pe_strT {X : Cx} {x : Str} {l : List Nat} {j : Nat} {pos : Pos} (e : x = T l) : PE X (.Constant (.str x) j pos) (tC (.str (T l))) := by subst e; exact pe_str
theorem pv_some {X : Cx} : True := True.intro
theorem bb_len : bootBuiltins "len" = some (.builtin "len") := by first | rfl | decide +kernel
theorem bb_isinstance : bootBuiltins "isinstance" = some (.builtin "isinstance") := by first | rfl | decide +kernel
theorem bb_abs : bootBuiltins "abs" = some (.builtin "abs") := by first | rfl | decide +kernel
theorem bb_sorted : bootBuiltins "sorted" = some (.builtin "sorted") := by first | rfl | decide +kernel
theorem bb_min : bootBuiltins "min" = some (.builtin "min") := by first | rfl | decide +kernel
theorem bb_max : bootBuiltins "max" = some (.builtin "max") := by first | rfl | decide +kernel
theorem bb_sum : bootBuiltins "sum" = some (.builtin "sum") := by first | rfl | decide +kernel
theorem bb_all : bootBuiltins "all" = some (.builtin "all") := by first | rfl | decide +kernel
theorem bb_any : bootBuiltins "any" = some (.builtin "any") := by first | rfl | decide +kernel
theorem bb_repr : bootBuiltins "repr" = some (.builtin "repr") := by first | rfl | decide +kernel
theorem bb_int : bootBuiltins "int" = some (.type "int") := by first | rfl | decide +kernel
theorem bb_str : bootBuiltins "str" = some (.type "str") := by first | rfl | decide +kernel
theorem bb_bool : bootBuiltins "bool" = some (.type "bool") := by first | rfl | decide +kernel
theorem bb_list : bootBuiltins "list" = some (.type "list") := by first | rfl | decide +kernel
theorem bb_dict : bootBuiltins "dict" = some (.type "dict") := by first | rfl | decide +kernel
theorem bb_tuple : bootBuiltins "tuple" = some (.type "tuple") := by first | rfl | decide +kernel
theorem bb_set : bootBuiltins "set" = some (.type "set") := by first | rfl | decide +kernel
theorem bb_ValueError : bootBuiltins "ValueError" = some (.type "ValueError") := by first | rfl | decide +kernel
theorem pe_gi {X : Cx} {x : Str} {z : Int} {t : Tok} {pos : Pos} (hg : Gl X x) (hm : X.mg x = some (.int z t)) (hd : (x == ("__debug__" : Str)) = false := by decide) : PE X (.Name x pos) (tC (.int z)) := pe_glob hg hm ⟨_, rfl⟩ hd
theorem pe_gs {X : Cx} {x : Str} {z : Str} {t : Tok} {pos : Pos} (hg : Gl X x) (hm : X.mg x = some (.str z t)) (hd : (x == ("__debug__" : Str)) = false := by decide) : PE X (.Name x pos) (tC (.str z)) := pe_glob hg hm ⟨_, rfl⟩ hd
theorem pe_gr {X : Cx} {x : Str} {a : Addr} {pos : Pos} (hg : Gl X x) (hm : X.mg x = some (.ref a)) (hd : (x == ("__debug__" : Str)) = false := by decide) : PE X (.Name x pos) (tC (.ref a)) := pe_glob hg hm rfl hd
theorem pe_bt {X : Cx} {x : Str} {n : String} {pos : Pos} (hg : Gl X x) (hm : X.mg x = none) (hv : bootBuiltins x = some (.type n)) (hn : x ≠ "__name__" := by decide) (hd : (x == ("__debug__" : Str)) = false := by decide) : PE X (.Name x pos) (tC (.ty n)) := pe_bltn hg hm hv rfl hn hd
/-! isinstance against built-in types -/
theorem kt_int_int {K : PySem.W.Frag} : PySem.W.kitOne K (.type "int") (.type "int") = some true := kit_ty (by decide +kernel)
theorem kt_int_bool {K : PySem.W.Frag} : PySem.W.kitOne K (.type "int") (.type "bool") = some false := kit_ty (by decide +kernel)
theorem kt_int_str {K : PySem.W.Frag} : PySem.W.kitOne K (.type "int") (.type "str") = some false := kit_ty (by decide +kernel)
theorem kt_int_list {K : PySem.W.Frag} : PySem.W.kitOne K (.type "int") (.type "list") = some false := kit_ty (by decide +kernel)
theorem kt_int_tuple {K : PySem.W.Frag} : PySem.W.kitOne K (.type "int") (.type "tuple") = some false := kit_ty (by decide +kernel)
theorem kt_int_dict {K : PySem.W.Frag} : PySem.W.kitOne K (.type "int") (.type "dict") = some false := kit_ty (by decide +kernel)
theorem kt_bool_int {K : PySem.W.Frag} : PySem.W.kitOne K (.type "bool") (.type "int") = some true := kit_ty (by decide +kernel)
theorem kt_bool_bool {K : PySem.W.Frag} : PySem.W.kitOne K (.type "bool") (.type "bool") = some true := kit_ty (by decide +kernel)
theorem kt_bool_str {K : PySem.W.Frag} : PySem.W.kitOne K (.type "bool") (.type "str") = some false := kit_ty (by decide +kernel)
theorem kt_bool_list {K : PySem.W.Frag} : PySem.W.kitOne K (.type "bool") (.type "list") = some false := kit_ty (by decide +kernel)
theorem kt_bool_tuple {K : PySem.W.Frag} : PySem.W.kitOne K (.type "bool") (.type "tuple") = some false := kit_ty (by decide +kernel)
theorem kt_bool_dict {K : PySem.W.Frag} : PySem.W.kitOne K (.type "bool") (.type "dict") = some false := kit_ty (by decide +kernel)
theorem kt_str_int {K : PySem.W.Frag} : PySem.W.kitOne K (.type "str") (.type "int") = some false := kit_ty (by decide +kernel)
theorem kt_str_bool {K : PySem.W.Frag} : PySem.W.kitOne K (.type "str") (.type "bool") = some false := kit_ty (by decide +kernel)
theorem kt_str_str {K : PySem.W.Frag} : PySem.W.kitOne K (.type "str") (.type "str") = some true := kit_ty (by decide +kernel)
theorem kt_str_list {K : PySem.W.Frag} : PySem.W.kitOne K (.type "str") (.type "list") = some false := kit_ty (by decide +kernel)
theorem kt_str_tuple {K : PySem.W.Frag} : PySem.W.kitOne K (.type "str") (.type "tuple") = some false := kit_ty (by decide +kernel)
theorem kt_str_dict {K : PySem.W.Frag} : PySem.W.kitOne K (.type "str") (.type "dict") = some false := kit_ty (by decide +kernel)
theorem kt_list_int {K : PySem.W.Frag} : PySem.W.kitOne K (.type "list") (.type "int") = some false := kit_ty (by decide +kernel)
theorem kt_list_bool {K : PySem.W.Frag} : PySem.W.kitOne K (.type "list") (.type "bool") = some false := kit_ty (by decide +kernel)
theorem kt_list_str {K : PySem.W.Frag} : PySem.W.kitOne K (.type "list") (.type "str") = some false := kit_ty (by decide +kernel)
theorem kt_list_list {K : PySem.W.Frag} : PySem.W.kitOne K (.type "list") (.type "list") = some true := kit_ty (by decide +kernel)
theorem kt_list_tuple {K : PySem.W.Frag} : PySem.W.kitOne K (.type "list") (.type "tuple") = some false := kit_ty (by decide +kernel)
theorem kt_list_dict {K : PySem.W.Frag} : PySem.W.kitOne K (.type "list") (.type "dict") = some false := kit_ty (by decide +kernel)
theorem kt_tuple_int {K : PySem.W.Frag} : PySem.W.kitOne K (.type "tuple") (.type "int") = some false := kit_ty (by decide +kernel)
theorem kt_tuple_bool {K : PySem.W.Frag} : PySem.W.kitOne K (.type "tuple") (.type "bool") = some false := kit_ty (by decide +kernel)
theorem kt_tuple_str {K : PySem.W.Frag} : PySem.W.kitOne K (.type "tuple") (.type "str") = some false := kit_ty (by decide +kernel)
theorem kt_tuple_list {K : PySem.W.Frag} : PySem.W.kitOne K (.type "tuple") (.type "list") = some false := kit_ty (by decide +kernel)
theorem kt_tuple_tuple {K : PySem.W.Frag} : PySem.W.kitOne K (.type "tuple") (.type "tuple") = some true := kit_ty (by decide +kernel)
theorem kt_tuple_dict {K : PySem.W.Frag} : PySem.W.kitOne K (.type "tuple") (.type "dict") = some false := kit_ty (by decide +kernel)
theorem kt_dict_int {K : PySem.W.Frag} : PySem.W.kitOne K (.type "dict") (.type "int") = some false := kit_ty (by decide +kernel)
theorem kt_dict_bool {K : PySem.W.Frag} : PySem.W.kitOne K (.type "dict") (.type "bool") = some false := kit_ty (by decide +kernel)
theorem kt_dict_str {K : PySem.W.Frag} : PySem.W.kitOne K (.type "dict") (.type "str") = some false := kit_ty (by decide +kernel)
theorem kt_dict_list {K : PySem.W.Frag} : PySem.W.kitOne K (.type "dict") (.type "list") = some false := kit_ty (by decide +kernel)
theorem kt_dict_tuple {K : PySem.W.Frag} : PySem.W.kitOne K (.type "dict") (.type "tuple") = some false := kit_ty (by decide +kernel)
theorem kt_dict_dict {K : PySem.W.Frag} : PySem.W.kitOne K (.type "dict") (.type "dict") = some true := kit_ty (by decide +kernel)
theorem kt_NoneType_int {K : PySem.W.Frag} : PySem.W.kitOne K (.type "NoneType") (.type "int") = some false := kit_ty (by decide +kernel)
theorem kt_NoneType_bool {K : PySem.W.Frag} : PySem.W.kitOne K (.type "NoneType") (.type "bool") = some false := kit_ty (by decide +kernel)
theorem kt_NoneType_str {K : PySem.W.Frag} : PySem.W.kitOne K (.type "NoneType") (.type "str") = some false := kit_ty (by decide +kernel)
theorem kt_NoneType_list {K : PySem.W.Frag} : PySem.W.kitOne K (.type "NoneType") (.type "list") = some false := kit_ty (by decide +kernel)
theorem kt_NoneType_tuple {K : PySem.W.Frag} : PySem.W.kitOne K (.type "NoneType") (.type "tuple") = some false := kit_ty (by decide +kernel)
theorem kt_NoneType_dict {K : PySem.W.Frag} : PySem.W.kitOne K (.type "NoneType") (.type "dict") = some false := kit_ty (by decide +kernel)
end LX
/-! sorted(x) of a list of whole numbers or of a dict with such keys, any number of them -/
namespace LX
open PySem PySem.Spec PyProof.Rows L2
section
variable {X : Cx}
theorem call_sortedDA (hcalm : X.calm = true) : CallR X (.builtin "sorted") (fun xs H Q => ∃ (a : Addr) (kvs : List (Key × V)) (ks : List Int), xs = [.ref a] ∧ Rd H a (.dK kvs) ∧ kvs.map (·.1) = ks.map Sum.inl ∧
    ∀ (ys : List Int) (p : Addr), ys.Perm ks → ys.Pairwise (· ≤ ·) → H p = none → Q (.ref p) (upd H p (.lst (ys.map V.int)))) := by
  intro pins s σ H xs us Q I r q
  obtain ⟨a, kvs, ks, ex, hd, hks, q⟩ := q
  subst ex
  obtain ⟨u, eu, rx⟩ := vals1 r
  subst eu
  cases rx
  obtain ⟨z, lo, vs, rel, dd⟩ := dk_rd I.hok hd
  obtain ⟨ep, hat⟩ := dd.dictAt
  have hkeys : vs.map (·.1) = ks.map Sum.inl := rel.keys.symm.trans hks
  have hl : vs.length = ks.length := by
    have e := congrArg List.length hkeys
    rw [List.length_map, List.length_map] at e
    exact e
  have hkl : ks.length ≤ sizeLine := by
    have e := congrArg List.length hks
    rw [List.length_map, List.length_map] at e
    omega
  have h16 : vs.length ≤ sizeLine := by rw [hl]; exact hkl
  refine Calls.call_function_entry PyProof.Rows.kind_sorted PyProof.Rows.plain_sorted PyProof.Rows.entry_sorted (PyProof.Rows.args_sorted1 _) ?_
  unfold Builtin.«sorted»
  refine wpAny_bind (m := checkCount "sorted" 1 1 _) (wpAny_pure ?_)
  refine wpAny_bind (PySem.W.kdu_collect (A := X.A.in1) (PySem.W.kdl_dict (knd := mixKind X.prog X.w) (kvs := vs) (ep := ep) lo) (I.ok.hd hcalm) hat h16 fun h' tk acc hk hacc => ?_)
  have hal : acc.toList.length = ks.length := by rw [Array.length_toList, hacc.1, hl]
  have hS : IntsAre acc.toList ks := ints_each hal fun j v e => by
    obtain ⟨k, x, e1, e2⟩ := hacc.2 j v (by rw [← Array.getElem?_toList]; exact e)
    have e3 : (vs.map (·.1))[j]? = some k := by rw [List.getElem?_map, e1]; rfl
    rw [hkeys, List.getElem?_map] at e3
    cases e4 : ks[j]? with
    | none => rw [e4] at e3; cases e3
    | some y =>
      rw [e4] at e3
      have e5 : Sum.inl y = k := Option.some.inj e3
      subst e5
      rcases keyIs_shape (show keyIs (Sum.inl y) v = true from e2) with ⟨i, t, ek, ev⟩ | ⟨z, t, ek, ev⟩
      · cases ek
        exact ⟨y, t, rfl, ev⟩
      · cases ek
  have I1 : Inv X pins σ H { s with heap := h', toks := tk } := I.kept hk
  refine wpAny_bind (wpAny_newList ?_ (by rw [hal]; exact hkl))
  have hoL : (h'.push (seqObj "list" acc.toList.toArray 0)).get? h'.objs.size = some (seqObj "list" acc.toList.toArray 0) := Heap.get?_push_size _ rfl
  show wpAny _ _ _ _ _ { s with heap := h'.push (seqObj "list" acc.toList.toArray 0), toks := tk }
  refine wpAny_bind (wpAny_holding (wpAny_call_entry PyProof.Rows.slot_list_sort ⟨_, hoL, rfl⟩ PyProof.Rows.entry_list_sort
    (SrtO.list_sort_ord (s := { s with heap := h'.push (seqObj "list" acc.toList.toArray 0), toks := tk }) SrtO.swo_int hoL (by rw [hal]; exact hkl) (fun h2 => SrtO.ints_sortable hS h2) fun out h1 h2 => ⟨.none, rfl, ?_⟩) (PyProof.Rows.args_list_sort _)))
  obtain ⟨k1, k2, k3⟩ := SrtO.ints_out hS h1 h2
  obtain ⟨e', he'⟩ := PyProof.Rows.sortedHeap_at (vs := acc.toList) (out := out.toArray) hoL
  have hlen : ((out.map SrtO.iv).map V.int).length ≤ sizeLine := by
    rw [List.length_map, k2.length_eq]
    exact hkl
  refine wpAny_pure ⟨_, rfl, .ref h'.objs.size, upd H h'.objs.size (.lst ((out.map SrtO.iv).map V.int)), I1.laid (t' := tk) (fun b u e => ?_) (Nat.le_refl _)
    (show ObjOk X.prog X.w _ _ _ (.lst ((out.map SrtO.iv).map V.int)) from ⟨hlen, out, e', vals_of_ints k1, he'⟩), rfl, q _ _ k2 k3 (I1.hok.fresh (Nat.le_refl _))⟩
  have hb : b < h'.objs.size := Heap.lt_size e
  rw [PyProof.Rows.sortedHeap_old (Nat.ne_of_lt hb) (by rw [size_push']; exact Nat.lt_succ_of_lt hb)]
  exact Heap.get?_push_of_some _ e
def rSortedU (K : PySem.W.Frag) : List V → Hp → VK → Prop := fun vs H Q => ∃ (a : Addr) (ns : List Int), vs = [V.ref a] ∧ (SqL K H a (ns.map V.int) ∨ ∃ kvs : List (Key × V), Rd H a (.dK kvs) ∧ kvs.map (·.1) = ns.map Sum.inl) ∧
  ∀ (ns' : List Int) (p : Addr), ns'.Perm ns → ns'.Pairwise (· ≤ ·) → H p = none → Q (.ref p) (upd H p (.lst (ns'.map V.int)))
theorem call_sortedU (hcalm : X.calm = true) : CallR X (.builtin "sorted") (rSortedU X.K) := by
  intro pins s σ H xs us Q I r h
  obtain ⟨a, ns, rfl, h1 | ⟨kvs, h1, h2⟩, q⟩ := h
  · exact cr_sortedI pins s σ H _ us Q I r ⟨a, ns, rfl, h1, q⟩
  · exact call_sortedDA hcalm pins s σ H _ us Q I r ⟨a, kvs, ns, rfl, h1, h2, q⟩
end
end LX
/-! the rules of LBase with the law's own K, for the parts of a comprehension -/
namespace LX
open PySem PySem.Spec PyProof.Rows L2
section
variable {X : Cx} {K : PySem.W.Frag}
theorem ix_UK (e : X.K = K) (hu : X.A.units + 1 < cLine) : IxR X (rIxU K) := by subst e; exact ix_U hu
theorem op_addUK (e : X.K = K) : OpR X (binaryOp .Add) (rAddU K) := by subst e; exact op_addU
theorem op_eqUK (e : X.K = K) (hu : X.A.units + 64 < cLine) : OpR X (compareOp .Eq) (rEqU K id) := by subst e; exact op_eqU hu
theorem op_neUK (e : X.K = K) (hu : X.A.units + 64 < cLine) : OpR X (compareOp .NotEq) (rEqU K (!·)) := by subst e; exact op_neU hu
theorem op_inUK (e : X.K = K) (hu : X.A.units + 1 < cLine) : OpR X (compareOp .In) (rInU K id) := by subst e; exact op_inU hu
theorem op_ninUK (e : X.K = K) (hu : X.A.units + 1 < cLine) : OpR X (compareOp .NotIn) (rInU K (!·)) := by subst e; exact op_ninU hu
theorem sl_UK (e : X.K = K) : SlR X (rSlU K) := by subst e; exact sl_U
theorem call_lenUK (e : X.K = K) : CallR X (.builtin "len") (rLenU K) := by subst e; exact call_lenU
theorem pe_fldK {o : Expr} {f : Str} {pos : Pos} {ta : TE} (e : X.K = K) (he : PE X o ta) (hb : attributeBase o f X.env (eval o X.env) = eval o X.env) : PE X (.Attribute o f pos) (tFld K ta f) := by subst e; exact pe_fld he hb
def tTruK (K : PySem.W.Frag) (ta : TE) : TT := fun σ H Q => ta σ H fun x H' => ∃ k, TruV K x H' k ∧ Q k H'
theorem pt_truthK {a : Expr} {ta : TE} (e : X.K = K) (ha : PE X a ta) (he : ∀ whole, isTrue a X.env whole = (do let v ← whole; standAt a.pos; holding [v] (truthy v))) :
    PT X a (tTruK K ta) := by subst e; exact pt_truth ha he
end
end LX
/-! the reading, step by step: one rule a head; the step tactic is printed from mkauto.py -/
namespace LX
open PySem PySem.Spec PyProof.Rows L2
/-- every old thing outside of F is kept -/
def Fr (F : List Addr) (H H' : Hp) : Prop := ∀ b o, H b = some o → b ∉ F → H' b = some o
theorem Fr.rfl' {F : List Addr} {H : Hp} : Fr F H H := fun _ _ e _ => e
theorem Fr.trans {F : List Addr} {H H1 H2 : Hp} (a : Fr F H H1) (b : Fr F H1 H2) : Fr F H H2 := fun c o e n => b c o (a c o e n) n
theorem Fr.new {F : List Addr} {H : Hp} {q : Addr} {o : HO} (hq : H q = none) : Fr F H (upd H q o) := fun c u e _ => by rw [upd_ne (ne_of_none e hq)]; exact e
theorem Fr.at {F : List Addr} {H : Hp} {q : Addr} {o : HO} (hq : q ∈ F) : Fr F H (upd H q o) := fun c u e n => by rw [upd_ne (fun z => n (by rw [z]; exact hq))]; exact e
theorem Fr.mono {F G : List Addr} {H H' : Hp} (a : Fr F H H') (h : ∀ b, b ∈ F → b ∈ G) : Fr G H H' := fun c o e n => a c o e fun m => n (h c m)
theorem Fr.skip {F : List Addr} {H H' : Hp} {q : Addr} {o : HO} (f : Fr F H H') (hq : H q = none) : Fr F H (upd H' q o) := fun b u e n => by rw [upd_ne (ne_of_none e hq)]; exact f b u e n
theorem Fr.g {F : List Addr} {H H' : Hp} (f : Fr F H H') {a : Addr} {o : HO} (h : H a = some o) (n : a ∉ F) : H' a = some o := f a o h n
theorem Fr.g0 {H H' : Hp} (f : Fr [] H H') {a : Addr} {o : HO} (h : H a = some o) : H' a = some o := f a o h (by simp)
/-- what is free later was free before -/
theorem Fr.none {H H' : Hp} (f : Fr [] H H') {q : Addr} (h : H' q = Option.none) : H q = Option.none := by
  cases e : H q with
  | none => rfl
  | some o => rw [f.g0 e] at h; cases h
theorem Fr.noneF {F : List Addr} {H H' : Hp} (f : Fr F H H') {q : Addr} (h : H' q = Option.none) (n : q ∉ F) : H q = Option.none := by
  cases e : H q with
  | none => rfl
  | some o => rw [f q o e n] at h; cases h
section
variable {K : PySem.W.Frag} {σ : L2.St} {H : Hp} {D : Ends}
/-! ### statements -/
theorem z_seq {t u : TS} (h : t { D with nx := u D } σ H) : tSeq t u D σ H := h
theorem z_next (h : D.nx σ H) : tNext D σ H := h
theorem z_brk (h : D.bk σ H) : tBreak D σ H := h
theorem z_cont (h : D.ct σ H) : tCont D σ H := h
theorem z_asg {te : TE} {g : TG} (h : te σ H fun x H1 => g x σ H1 D.nx) : tAsg te g D σ H := h
theorem z_drop {te : TE} (h : te σ H fun _ H1 => D.nx σ H1) : tDrop te D σ H := h
theorem z_ret {te : TE} (h : te σ H D.rt) : tRet te D σ H := h
theorem z_retN (h : D.rt .non H) : tRetN D σ H := h
theorem z_ifs {c : TT} {t u : TS} (h : c σ H fun b H1 => if b = true then t D σ H1 else u D σ H1) : tIfS c t u D σ H := h
theorem z_cut {t u : TS} (h : ∃ Mid : L2.St → Hp → Prop, t { D with nx := Mid } σ H ∧ ∀ σ' H', Mid σ' H' → u D σ' H') : Evl.tCut t u D σ H := h
theorem z_aug {i : Nat} {x : V} {te : TE} {ti : TIp} (e : σ[i]? = some (some x)) (h : te σ H fun y H1 => ti x y H1 fun z H2 => D.nx (σ.set i (some z)) H2) : tAug i te ti D σ H := ⟨x, e, h⟩
def oFldS (K : PySem.W.Frag) (f : Str) (x y : V) (D : Hp → Prop) (H : Hp) : Prop := ∃ a C dx fs, x = .ref a ∧ H a = some (.ins C dx fs) ∧ Cls K C ∧ NoAttr K C f ∧ fs.length < 1000 ∧ D (upd H a (.ins C dx (putF f y fs)))
theorem z_flds {ta tv : TE} {f : Str} (h : tv σ H fun y H1 => ta σ H1 fun x H2 => oFldS K f x y (D.nx σ) H2) : sFld K ta tv f D σ H := h
theorem z_flds1 {f : Str} {a C dx : Addr} {fs : List (Str × V)} {y : V} {Q : Hp → Prop} (h1 : H a = some (.ins C dx fs)) (h2 : Cls K C) (h3 : NoAttr K C f) (h4 : fs.length < 1000) (h : ∀ H1, Fr [a] H H1 → H1 a = some (.ins C dx (putF f y fs)) → (∀ b, H b = none → H1 b = none) → Q H1) : oFldS K f (.ref a) y Q H :=
  ⟨a, C, dx, fs, rfl, h1, h2, h3, h4, h _ (Fr.at (by simp)) upd_same (fun b e => by rw [upd_ne (ne_of_none h1 e).symm]; exact e)⟩
def oDPut (x y v : V) (D : Hp → Prop) (H : Hp) : Prop := ∃ a H4, x = .ref a ∧ DPut H a y v H4 ∧ D H4
theorem z_dput {td ty tv : TE} (h : tv σ H fun v H1 => td σ H1 fun x H2 => ty σ H2 fun y H3 => oDPut x y v (D.nx σ) H3) : sDPut td ty tv D σ H := h
theorem upd_free {H : Hp} {a : Addr} {o u : HO} (h1 : H a = some u) : ∀ b, H b = none → upd H a o b = none := fun b e => by rw [upd_ne (ne_of_none h1 e).symm]; exact e
theorem z_dputI {a : Addr} {n : Int} {v : V} {kvs : List (Key × V)} {Q : Hp → Prop} (h1 : H a = some (.dK kvs)) (h2 : kvs.length < sizeLine) (h : ∀ H1, Fr [a] H H1 → H1 a = some (.dK (putK kvs (.inl n) v)) → (∀ b, H b = none → H1 b = none) → Q H1) : oDPut (.ref a) (.int n) v Q H :=
  ⟨a, _, rfl, DPut.k (k := Sum.inl n) h1 h2, h _ (Fr.at (by simp)) upd_same (upd_free h1)⟩
theorem z_dputS {a : Addr} {n : Str} {v : V} {kvs : List (Key × V)} {Q : Hp → Prop} (h1 : H a = some (.dK kvs)) (h2 : kvs.length < sizeLine) (h : ∀ H1, Fr [a] H H1 → H1 a = some (.dK (putK kvs (.inr n) v)) → (∀ b, H b = none → H1 b = none) → Q H1) : oDPut (.ref a) (.str n) v Q H :=
  ⟨a, _, rfl, DPut.k (k := Sum.inr n) h1 h2, h _ (Fr.at (by simp)) upd_same (upd_free h1)⟩
/-! ### targets -/
theorem z_gtup {n : Nat} {t : TGs} {a : Addr} {xs : List V} {Q : L2.St → Hp → Prop} (h1 : H a = some (.tup xs)) (h2 : xs.length = n) (h : t xs σ H Q) : gTup K n t (.ref a) σ H Q := ⟨a, xs, rfl, SqT.of h1, h2, h⟩
theorem z_gcons {t : TG} {u : TGs} {v : V} {r : List V} {Q : L2.St → Hp → Prop} (h : t v σ H fun σ' H' => u r σ' H' Q) : gCons t u (v :: r) σ H Q := ⟨v, r, rfl, h⟩
theorem z_gnil {Q : L2.St → Hp → Prop} (h : Q σ H) : gNil [] σ H Q := ⟨rfl, h⟩
theorem z_gsub {to ti : TE} {t : TSet} {v : V} {Q : L2.St → Hp → Prop} (h : to σ H fun o H1 => ti σ H1 fun i H2 => t o i v H2 fun H3 => Q σ H3) : gSub to ti t v σ H Q := h
theorem z_setL {p : Addr} {xs : List V} {k : Int} {j : Nat} {v : V} {Q : Hp → Prop} (h1 : H p = some (.lst xs)) (h2 : ixN xs.length k = some j) (h : ∀ H1, Fr [p] H H1 → H1 p = some (.lst (xs.set j v)) → (∀ b, H b = none → H1 b = none) → Q H1) : rSetL (.ref p) (.int k) v H Q :=
  ⟨p, xs, k, j, rfl, rfl, h1, h2, h _ (Fr.at (by simp)) upd_same (upd_free h1)⟩
/-! ### expressions -/
variable {Q : VK}
theorem z_c {v : V} (h : Q v H) : tC v σ H Q := h
theorem z_op {r : R2} {ta tb : TE} (h : ta σ H fun x H1 => tb σ H1 fun y H2 => r x y H2 Q) : tOp r ta tb σ H Q := h
theorem z_un {r : V → Hp → VK → Prop} {ta : TE} (h : ta σ H fun x H1 => r x H1 Q) : tUn r ta σ H Q := h
/-- a new thing -/
def oNew (o : HO) (n : Nat) (H : Hp) (Q : VK) : Prop := n ≤ sizeLine ∧ ∀ p, H p = none → Q (.ref p) (upd H p o)
theorem z_tup {t : TA} (h : t σ H fun xs H1 => oNew (.tup xs) xs.length H1 Q) : tTup t σ H Q := h
theorem z_lst {t : TA} (h : t σ H fun xs H1 => oNew (.lst xs) xs.length H1 Q) : tLst t σ H Q := h
theorem z_newL {n : Nat} {o : HO} (hn : n ≤ sizeLine) (h : ∀ p H1, H p = none → Fr [] H H1 → H1 p = some o → Q (.ref p) H1) : oNew o n H Q := ⟨hn, fun p hp => h p _ hp (Fr.new hp) upd_same⟩
theorem sz1 {n : Nat} (h : n ≤ 1000) : n ≤ sizeLine := by rw [sizeLine_eq]; omega
def rListU (K : PySem.W.Frag) : List V → Hp → VK → Prop := fun xs H Q => ∃ p ys, xs = [.ref p] ∧ (SqL K H p ys ∨ SqT K H p ys) ∧ ∀ l, H l = none → Q (.ref l) (upd H l (.lst ys))
theorem call_listU {X : Cx} : CallR X (.type "list") (rListU X.K) := call_list_of
theorem call_listUK {X : Cx} {K : PySem.W.Frag} (e : X.K = K) : CallR X (.type "list") (rListU K) := by subst e; exact call_listU
theorem z_new {o : HO} (h : ∀ p H1, H p = none → Fr [] H H1 → H1 p = some o → Q (.ref p) H1) : ∀ p, H p = none → Q (.ref p) (upd H p o) := fun p hp => h p _ hp (Fr.new hp) upd_same
theorem z_dnew (h : ∀ p H1, H p = none → Fr [] H H1 → H1 p = some (.dK []) → Q (.ref p) H1) : tDNewK σ H Q := fun p hp => h p _ hp (Fr.new hp) upd_same
theorem z_nil {Q : List V → Hp → Prop} (h : Q [] H) : tNil σ H Q := h
theorem z_cons {ta : TE} {tr : TA} {Q : List V → Hp → Prop} (h : ta σ H fun x H1 => tr σ H1 fun xs H2 => Q (x :: xs) H2) : tCons ta tr σ H Q := h
theorem z_cb {r : List V → Hp → VK → Prop} {t : TA} (h : t σ H fun vs H1 => r vs H1 Q) : tCB r t σ H Q := h
theorem z_call {sp : Sp} {dvs : List V} {E : XK} {t : TA} (h : t σ H fun vs H1 => sp (vs ++ dvs) H1 Q E) : tCall sp dvs E t σ H Q := h
def oMeth (C : Addr) (m : Str) (x : V) (R : Hp → Prop) (H : Hp) : Prop := ∃ a dx fs, x = .ref a ∧ H a = some (.ins C dx fs) ∧ fs.lookup m = none ∧ R H
theorem z_meth {C : Addr} {m : Str} {sp : Sp} {dvs : List V} {E : XK} {ta : TE} {t : TA} (h : ta σ H fun x H1 => oMeth C m x (fun H1 => t σ H1 fun vs H2 => sp (x :: (vs ++ dvs)) H2 Q E) H1) : tMeth C m sp dvs E ta t σ H Q := h
theorem z_meth1 {C : Addr} {m : Str} {a dx : Addr} {fs : List (Str × V)} {R : Hp → Prop} (h1 : H a = some (.ins C dx fs)) (h2 : fs.lookup m = none) (h : R H) : oMeth C m (.ref a) R H := ⟨a, dx, fs, rfl, h1, h2, h⟩
theorem z_make {C : Addr} {sp : Sp} {dvs : List V} {E : XK} {t : TA} (h : t σ H fun vs H1 => ∀ x dx, H1 x = none → H1 dx = none → dx ≠ x → sp (.ref x :: (vs ++ dvs)) (upd (upd H1 dx (.own x)) x (.ins C dx [])) (fun v H2 => v = .non ∧ Q (.ref x) H2) E) : tMake C sp dvs E t σ H Q := h
def oFld (K : PySem.W.Frag) (f : Str) (x : V) (H : Hp) (Q : VK) : Prop := ∃ a C dx fs v, x = .ref a ∧ H a = some (.ins C dx fs) ∧ Cls K C ∧ NoAttr K C f ∧ fs.lookup f = some v ∧ Q v H
theorem z_fld {ta : TE} {f : Str} (h : ta σ H fun x H1 => oFld K f x H1 Q) : tFld K ta f σ H Q := h
theorem z_fld1 {f : Str} {a C dx : Addr} {fs : List (Str × V)} {v : V} (h1 : H a = some (.ins C dx fs)) (h2 : Cls K C) (h3 : NoAttr K C f) (h4 : fs.lookup f = some v) (h : Q v H) : oFld K f (.ref a) H Q := ⟨a, C, dx, fs, v, rfl, h1, h2, h3, h4, h⟩
def oBl (x : V) (H : Hp) (Q : Bool → Hp → Prop) : Prop := ∃ k, x = .bl k ∧ Q k H
theorem z_test {t : TE} {Q : Bool → Hp → Prop} (h : t σ H fun x H' => oBl x H' Q) : tTest t σ H Q := h
theorem z_tB {t : TE} {Q : Bool → Hp → Prop} (h : t σ H fun x H' => oBl x H' Q) : tB t σ H Q := h
theorem z_bl {k : Bool} {Q : Bool → Hp → Prop} (h : Q k H) : oBl (.bl k) H Q := ⟨k, rfl, h⟩
def oTru (K : PySem.W.Frag) (x : V) (H : Hp) (Q : Bool → Hp → Prop) : Prop := ∃ k, TruV K x H k ∧ Q k H
theorem z_tru {ta : TE} {Q : Bool → Hp → Prop} (h : ta σ H fun x H' => oTru K x H' Q) : (fun (σ : L2.St) (H : Hp) (Q : Bool → Hp → Prop) => ta σ H fun x H' => ∃ k, TruV K x H' k ∧ Q k H') σ H Q := h
theorem z_truK {ta : TE} {Q : Bool → Hp → Prop} (h : ta σ H fun x H' => oTru K x H' Q) : tTruK K ta σ H Q := h
theorem z_truI {k : Bool → Prop} {x : V} (h : oTru K x H (fun b _ => k b)) : ∃ b, TruV K x H b ∧ k b := h
theorem z_notT {ta : TE} (h : ta σ H fun x H' => oTru K x H' fun k H' => Q (.bl (!k)) H') : tNotT K ta σ H Q := h
theorem z_truB {k : Bool} {Q : Bool → Hp → Prop} (h : Q k H) : oTru K (.bl k) H Q := ⟨k, rfl, h⟩
theorem z_truN {Q : Bool → Hp → Prop} (h : Q false H) : oTru K .non H Q := ⟨false, rfl, h⟩
theorem z_truZ {i : Int} {Q : Bool → Hp → Prop} (h : Q (i != 0) H) : oTru K (.int i) H Q := ⟨_, rfl, h⟩
theorem z_truS {y : Str} {Q : Bool → Hp → Prop} (hl : y.length ≤ sizeLine) (h : Q ((y.length : Int) != 0) H) : oTru K (.str y) H Q := ⟨_, ⟨hl, rfl⟩, h⟩
theorem z_truL {p : Addr} {xs : List V} {Q : Bool → Hp → Prop} (h1 : H p = some (.lst xs)) (h : Q (!xs.isEmpty) H) : oTru K (.ref p) H Q := ⟨_, .inl ⟨_, SqL.of h1, rfl⟩, h⟩
theorem z_truT {p : Addr} {xs : List V} {Q : Bool → Hp → Prop} (h1 : H p = some (.tup xs)) (h : Q (!xs.isEmpty) H) : oTru K (.ref p) H Q := ⟨_, .inr (.inl ⟨_, SqT.of h1, rfl⟩), h⟩
theorem z_truD {p : Addr} {kvs : List (Key × V)} {Q : Bool → Hp → Prop} (h1 : H p = some (.dK kvs)) (h : Q (!kvs.isEmpty) H) : oTru K (.ref p) H Q := ⟨_, .inr (.inr ⟨_, h1, rfl⟩), h⟩
theorem z_tand {t u : TT} {Q : Bool → Hp → Prop} (h : t σ H fun c H1 => if c = true then u σ H1 Q else Q false H1) : tAnd t u σ H Q := h
theorem z_tor {t u : TT} {Q : Bool → Hp → Prop} (h : t σ H fun c H1 => if c = true then Q true H1 else u σ H1 Q) : tOr t u σ H Q := h
theorem z_tnot {t : TT} {Q : Bool → Hp → Prop} (h : t σ H fun c H1 => Q (!c) H1) : tNot t σ H Q := h
theorem z_yes {Q : Bool → Hp → Prop} (h : Q true H) : tYes σ H Q := h
theorem z_andV {ta tb : TE} (h : ta σ H fun x H1 => oBl x H1 fun c H1 => if c = true then tb σ H1 Q else Q (.bl false) H1) : tAndV ta tb σ H Q := h
theorem z_orV {ta tb : TE} (h : ta σ H fun x H1 => oBl x H1 fun c H1 => if c = true then Q (.bl true) H1 else tb σ H1 Q) : tOrV ta tb σ H Q := h
theorem z_tIf {t : TT} {ta tb : TE} (h : t σ H fun c H1 => if c = true then ta σ H1 Q else tb σ H1 Q) : tIf t ta tb σ H Q := h
/-! ### operators -/
theorem z_addI {i j : Int} (h : Q (.int (i + j)) H) : rAddU K (.int i) (.int j) H Q := h
theorem z_addS {i j : Str} (hl : i.length + j.length ≤ sizeLine) (h : Q (.str (i ++ j)) H) : rAddU K (.str i) (.str j) H Q := ⟨hl, h⟩
theorem z_addL {a b : Addr} {xs zs : List V} (h1 : H a = some (.lst xs)) (h2 : H b = some (.lst zs)) (h3 : xs.length + zs.length ≤ sizeLine) (h : ∀ p H1, H p = none → Fr [] H H1 → H1 p = some (.lst (xs ++ zs)) → Q (.ref p) H1) : rAddU K (.ref a) (.ref b) H Q := Or.inl ⟨a, b, xs, zs, rfl, rfl, h1, h2, h3, z_new h⟩
theorem z_rI {C : Int → Int → Prop} {g : Int → Int → V} {i j : Int} (hc : C i j) (h : Q (g i j) H) : rI C g (.int i) (.int j) H Q := ⟨i, j, rfl, rfl, hc, h⟩
theorem z_rI0 {g : Int → Int → V} {i j : Int} (h : Q (g i j) H) : rI0 g (.int i) (.int j) H Q := ⟨i, j, rfl, rfl, h⟩
theorem z_mulI {i j : Int} (hc : CMul i j) (h : Q (.int (i * j)) H) : rMulU (.int i) (.int j) H Q := ⟨hc, h⟩
theorem z_rep {l : Addr} {xs : List V} {k : Int} (n : Nat) (h1 : H l = some (.lst xs)) (hk : k = (n : Int)) (hn : n < 2 ^ 63) (h3 : xs.length * n ≤ sizeLine) (h : ∀ p H1, H p = none → Fr [] H H1 → H1 p = some (.lst (List.replicate n xs).flatten) → Q (.ref p) H1) : rMulU (.ref l) (.int k) H Q := by
  subst hk
  exact ⟨l, n, xs, rfl, rfl, h1, by omega, by omega, by rw [Int.toNat_natCast]; exact h3, z_new (by rw [Int.toNat_natCast]; exact h)⟩
theorem z_rU {g : Int → V} {i : Int} (h : Q (g i) H) : rU g (.int i) H Q := ⟨i, rfl, h⟩
theorem z_ordI {f : Int → Int → Bool} {g : List Nat → List Nat → Bool} {i j : Int} (h : Q (.bl (f i j)) H) : rOrd f g (.int i) (.int j) H Q := h
theorem z_ordS {f : Int → Int → Bool} {g : List Nat → List Nat → Bool} {i j : Str} (h : Q (.bl (g i.cps.toList j.cps.toList)) H) : rOrd f g (.str i) (.str j) H Q := h
theorem z_eqI {i j : Int} (h : Q (.bl (decide (i = j))) H) : rEqU K id (.int i) (.int j) H Q := ⟨rfl, by show Q (.bl (decide (V.int i = V.int j))) H; rw [I_dec]; exact h⟩
theorem z_neI {i j : Int} (h : Q (.bl (!decide (i = j))) H) : rEqU K (!·) (.int i) (.int j) H Q := ⟨rfl, by show Q (.bl (!decide (V.int i = V.int j))) H; rw [I_dec]; exact h⟩
theorem S_dec (a b : Str) : decide (V.str a = V.str b) = decide (a = b) := by
  by_cases h : a = b
  · subst h; simp
  · have : ¬ V.str a = V.str b := fun z => h (V.str.inj z)
    rw [decide_eq_false this, decide_eq_false h]
theorem z_eqS {i j : Str} (h : Q (.bl (decide (i = j))) H) : rEqU K id (.str i) (.str j) H Q := ⟨rfl, by show Q (.bl (decide (V.str i = V.str j))) H; rw [S_dec]; exact h⟩
theorem z_neS {i j : Str} (h : Q (.bl (!decide (i = j))) H) : rEqU K (!·) (.str i) (.str j) H Q := ⟨rfl, by show Q (.bl (!decide (V.str i = V.str j))) H; rw [S_dec]; exact h⟩
theorem z_isNP {x : V} (h : Q (.bl ((decide (x = .non)))) H) : rIsU id x .non H Q := h
theorem z_isNQ {x : V} (h : Q (.bl (!(decide (x = .non)))) H) : rIsU (!·) x .non H Q := h
theorem z_isNiP {i : Int} (h : Q (.bl false) H) : rIsU id (.int i) .non H Q := h
theorem z_isNiN {i : Int} (h : Q (.bl true) H) : rIsU (!·) (.int i) .non H Q := h
theorem z_isNsP {i : Str} (h : Q (.bl false) H) : rIsU id (.str i) .non H Q := h
theorem z_isNsN {i : Str} (h : Q (.bl true) H) : rIsU (!·) (.str i) .non H Q := h
theorem z_isNrP {a : Addr} (h : Q (.bl false) H) : rIsU id (.ref a) .non H Q := h
theorem z_isNrN {a : Addr} (h : Q (.bl true) H) : rIsU (!·) (.ref a) .non H Q := h
theorem z_isNbP {b : Bool} (h : Q (.bl false) H) : rIsU id (.bl b) .non H Q := h
theorem z_isNbN {b : Bool} (h : Q (.bl true) H) : rIsU (!·) (.bl b) .non H Q := h
theorem z_isNnP (h : Q (.bl true) H) : rIsU id .non .non H Q := h
theorem z_isNnN (h : Q (.bl false) H) : rIsU (!·) .non .non H Q := h
theorem z_isBP {x : V} {b : Bool} (h : Q (.bl ((decide (x = .bl b)))) H) : rIsU id x (.bl b) H Q := h
theorem z_isBQ {x : V} {b : Bool} (h : Q (.bl (!(decide (x = .bl b)))) H) : rIsU (!·) x (.bl b) H Q := h
theorem z_ixL {p : Addr} {xs : List V} {i : Int} {v : V} (h1 : H p = some (.lst xs)) (h2 : atI xs i = some v) (h : Q v H) : rIxU K (.ref p) (.int i) H Q := Or.inl ⟨xs, i, v, rfl, Or.inl (SqL.of h1), h2, h⟩
theorem z_ixT {p : Addr} {xs : List V} {i : Int} {v : V} (h1 : H p = some (.tup xs)) (h2 : atI xs i = some v) (h : Q v H) : rIxU K (.ref p) (.int i) H Q := Or.inl ⟨xs, i, v, rfl, Or.inr (SqT.of h1), h2, h⟩
theorem z_ixD {p : Addr} {kvs : List (Key × V)} {n : Int} {v : V} (h1 : H p = some (.dK kvs)) (h2 : valV kvs (.inl n) = some v) (h : Q v H) : rIxU K (.ref p) (.int n) H Q := Or.inr ⟨v, by rw [← h2]; exact DGet.k (k := Sum.inl n) h1, h⟩
theorem z_ixDf {p : Addr} {kvs : List (Key × V)} {od : Obj} {n : Int} {v : V} (h1 : H p = some (.frz od (.dK kvs))) (h2 : valV kvs (.inl n) = some v) (h : Q v H) : rIxU K (.ref p) (.int n) H Q := Or.inr ⟨v, by rw [← h2]; exact .inl ⟨kvs, .inl n, .inr ⟨od, h1⟩, rfl, rfl⟩, h⟩
theorem z_ixDS {p : Addr} {kvs : List (Key × V)} {n : Str} {v : V} (h1 : H p = some (.dK kvs)) (h2 : valV kvs (.inr n) = some v) (h : Q v H) : rIxU K (.ref p) (.str n) H Q := Or.inr ⟨v, by rw [← h2]; exact DGet.k (k := Sum.inr n) h1, h⟩
theorem z_ixS {z : Str} {i : Int} {c : Nat} (h1 : z.length ≤ sizeLine) (h2 : atI z.cps.toList i = some c) (h : Q (.str ⟨#[c]⟩) H) : rIxU K (.str z) (.int i) H Q := ⟨i, c, rfl, h1, h2, h⟩
theorem z_inDIP {p : Addr} {kvs : List (Key × V)} {n : Int} (h1 : H p = some (.dK kvs)) (h : Q (.bl ((valV kvs (.inl n)).isSome)) H) : rInU K id (.int n) (.ref p) H Q := Or.inr ⟨_, DGet.k (k := Sum.inl n) h1, h⟩
theorem z_inDIN {p : Addr} {kvs : List (Key × V)} {n : Int} (h1 : H p = some (.dK kvs)) (h : Q (.bl (!(valV kvs (.inl n)).isSome)) H) : rInU K (!·) (.int n) (.ref p) H Q := Or.inr ⟨_, DGet.k (k := Sum.inl n) h1, h⟩
theorem z_inDfP {p : Addr} {kvs : List (Key × V)} {od : Obj} {n : Int} (h1 : H p = some (.frz od (.dK kvs))) (h : Q (.bl ((valV kvs (.inl n)).isSome)) H) : rInU K id (.int n) (.ref p) H Q := Or.inr ⟨_, .inl ⟨kvs, .inl n, .inr ⟨od, h1⟩, rfl, rfl⟩, h⟩
theorem z_inDfN {p : Addr} {kvs : List (Key × V)} {od : Obj} {n : Int} (h1 : H p = some (.frz od (.dK kvs))) (h : Q (.bl (!(valV kvs (.inl n)).isSome)) H) : rInU K (!·) (.int n) (.ref p) H Q := Or.inr ⟨_, .inl ⟨kvs, .inl n, .inr ⟨od, h1⟩, rfl, rfl⟩, h⟩
theorem z_inDSP {p : Addr} {kvs : List (Key × V)} {n : Str} (h1 : H p = some (.dK kvs)) (h : Q (.bl ((valV kvs (.inr n)).isSome)) H) : rInU K id (.str n) (.ref p) H Q := Or.inr ⟨_, DGet.k (k := Sum.inr n) h1, h⟩
theorem z_inDSN {p : Addr} {kvs : List (Key × V)} {n : Str} (h1 : H p = some (.dK kvs)) (h : Q (.bl (!(valV kvs (.inr n)).isSome)) H) : rInU K (!·) (.str n) (.ref p) H Q := Or.inr ⟨_, DGet.k (k := Sum.inr n) h1, h⟩
theorem z_inLP {p : Addr} {xs : List V} {x : V} (h1 : H p = some (.lst xs)) (h2 : flatV x = true) (h3 : xs.all flatV = true) (h : Q (.bl ((inV x xs))) H) : rInU K id x (.ref p) H Q := Or.inl ⟨xs, Or.inl (SqL.of h1), h2, h3, h⟩
theorem z_inLN {p : Addr} {xs : List V} {x : V} (h1 : H p = some (.lst xs)) (h2 : flatV x = true) (h3 : xs.all flatV = true) (h : Q (.bl (!(inV x xs))) H) : rInU K (!·) x (.ref p) H Q := Or.inl ⟨xs, Or.inl (SqL.of h1), h2, h3, h⟩
theorem z_inTP {p : Addr} {xs : List V} {x : V} (h1 : H p = some (.tup xs)) (h2 : flatV x = true) (h3 : xs.all flatV = true) (h : Q (.bl ((inV x xs))) H) : rInU K id x (.ref p) H Q := Or.inl ⟨xs, Or.inr (SqT.of h1), h2, h3, h⟩
theorem z_inTN {p : Addr} {xs : List V} {x : V} (h1 : H p = some (.tup xs)) (h2 : flatV x = true) (h3 : xs.all flatV = true) (h : Q (.bl (!(inV x xs))) H) : rInU K (!·) x (.ref p) H Q := Or.inl ⟨xs, Or.inr (SqT.of h1), h2, h3, h⟩
def tSlO := @tSl
theorem z_sl {r : V → Option Int → Option Int → Hp → VK → Prop} {te : TE} {tl th : TO} (h : te σ H fun x H1 => tl σ H1 fun l H2 => th σ H2 fun u H3 => r x l u H3 Q) : tSl r te tl th σ H Q := h
theorem z_nopart {Q : Option Int → Hp → Prop} (h : Q none H) : tNoPart σ H Q := h
def oPart (x : V) (H : Hp) (Q : Option Int → Hp → Prop) : Prop := ∃ i, x = .int i ∧ Q (some i) H
theorem z_part {t : TE} {Q : Option Int → Hp → Prop} (h : t σ H fun x H1 => oPart x H1 Q) : tPart t σ H Q := h
theorem z_part1 {i : Int} {Q : Option Int → Hp → Prop} (h : Q (some i) H) : oPart (.int i) H Q := ⟨i, rfl, h⟩
theorem z_slS {z : Str} {lo hi : Option Int} (h1 : z.length ≤ sizeLine) (h : Q (.str (cutS z lo hi)) H) : rSlU K (.str z) lo hi H Q := ⟨h1, h⟩
theorem z_slL {a : Addr} {xs : List V} {lo hi : Option Int} (h1 : H a = some (.lst xs)) (h : ∀ p H1, H p = none → Fr [] H H1 → H1 p = some (.lst (cutV xs lo hi)) → Q (.ref p) H1) : rSlU K (.ref a) lo hi H Q := Or.inl ⟨a, xs, rfl, SqL.of h1, z_new h⟩
/-! ### builtins -/
theorem z_lenS {z : Str} (h1 : z.length ≤ sizeLine) (h : Q (.int z.length) H) : rLenU K [.str z] H Q := ⟨h1, h⟩
theorem z_lenL {p : Addr} {ys : List V} (h1 : H p = some (.lst ys)) (h : Q (.int ys.length) H) : rLenU K [.ref p] H Q := Or.inl ⟨ys, Or.inl (SqL.of h1), h⟩
theorem z_lenT {p : Addr} {ys : List V} (h1 : H p = some (.tup ys)) (h : Q (.int ys.length) H) : rLenU K [.ref p] H Q := Or.inl ⟨ys, Or.inr (SqT.of h1), h⟩
theorem z_lenD {p : Addr} {kvs : List (Key × V)} (h1 : H p = some (.dK kvs)) (h : Q (.int kvs.length) H) : rLenU K [.ref p] H Q := Or.inr ⟨kvs, h1, h⟩
theorem z_intI {i : Int} (h : Q (.int i) H) : rIntU [.int i] H Q := h
theorem z_intB {k : Bool} (h : Q (.int (if k then 1 else 0)) H) : rIntU [.bl k] H Q := h
theorem z_isi {x c : V} {t u : Value} {b : Bool} (h1 : ClsV c u) (h2 : TyX K H x t) (h3 : PySem.W.kitOne K t u = some b) (h : Q (.bl b) H) : rIsi K [x, c] H Q := ⟨x, c, t, u, b, rfl, h1, h2, h3, h⟩
theorem z_isi_int_int {i : Int} (h : Q (.bl true) H) : rIsi K [.int i, .ty "int"] H Q := z_isi (ClsV.ty _) (TyX.base (TyOf.int _)) kt_int_int h
theorem z_isi_int_bool {i : Int} (h : Q (.bl false) H) : rIsi K [.int i, .ty "bool"] H Q := z_isi (ClsV.ty _) (TyX.base (TyOf.int _)) kt_int_bool h
theorem z_isi_int_str {i : Int} (h : Q (.bl false) H) : rIsi K [.int i, .ty "str"] H Q := z_isi (ClsV.ty _) (TyX.base (TyOf.int _)) kt_int_str h
theorem z_isi_int_list {i : Int} (h : Q (.bl false) H) : rIsi K [.int i, .ty "list"] H Q := z_isi (ClsV.ty _) (TyX.base (TyOf.int _)) kt_int_list h
theorem z_isi_int_tuple {i : Int} (h : Q (.bl false) H) : rIsi K [.int i, .ty "tuple"] H Q := z_isi (ClsV.ty _) (TyX.base (TyOf.int _)) kt_int_tuple h
theorem z_isi_int_dict {i : Int} (h : Q (.bl false) H) : rIsi K [.int i, .ty "dict"] H Q := z_isi (ClsV.ty _) (TyX.base (TyOf.int _)) kt_int_dict h
theorem z_isi_str_int {i : Str} (h : Q (.bl false) H) : rIsi K [.str i, .ty "int"] H Q := z_isi (ClsV.ty _) (TyX.base (TyOf.str _)) kt_str_int h
theorem z_isi_str_bool {i : Str} (h : Q (.bl false) H) : rIsi K [.str i, .ty "bool"] H Q := z_isi (ClsV.ty _) (TyX.base (TyOf.str _)) kt_str_bool h
theorem z_isi_str_str {i : Str} (h : Q (.bl true) H) : rIsi K [.str i, .ty "str"] H Q := z_isi (ClsV.ty _) (TyX.base (TyOf.str _)) kt_str_str h
theorem z_isi_str_list {i : Str} (h : Q (.bl false) H) : rIsi K [.str i, .ty "list"] H Q := z_isi (ClsV.ty _) (TyX.base (TyOf.str _)) kt_str_list h
theorem z_isi_str_tuple {i : Str} (h : Q (.bl false) H) : rIsi K [.str i, .ty "tuple"] H Q := z_isi (ClsV.ty _) (TyX.base (TyOf.str _)) kt_str_tuple h
theorem z_isi_str_dict {i : Str} (h : Q (.bl false) H) : rIsi K [.str i, .ty "dict"] H Q := z_isi (ClsV.ty _) (TyX.base (TyOf.str _)) kt_str_dict h
theorem z_isi_bool_int {i : Bool} (h : Q (.bl true) H) : rIsi K [.bl i, .ty "int"] H Q := z_isi (ClsV.ty _) (TyX.base (TyOf.bl _)) kt_bool_int h
theorem z_isi_bool_bool {i : Bool} (h : Q (.bl true) H) : rIsi K [.bl i, .ty "bool"] H Q := z_isi (ClsV.ty _) (TyX.base (TyOf.bl _)) kt_bool_bool h
theorem z_isi_bool_str {i : Bool} (h : Q (.bl false) H) : rIsi K [.bl i, .ty "str"] H Q := z_isi (ClsV.ty _) (TyX.base (TyOf.bl _)) kt_bool_str h
theorem z_isi_bool_list {i : Bool} (h : Q (.bl false) H) : rIsi K [.bl i, .ty "list"] H Q := z_isi (ClsV.ty _) (TyX.base (TyOf.bl _)) kt_bool_list h
theorem z_isi_bool_tuple {i : Bool} (h : Q (.bl false) H) : rIsi K [.bl i, .ty "tuple"] H Q := z_isi (ClsV.ty _) (TyX.base (TyOf.bl _)) kt_bool_tuple h
theorem z_isi_bool_dict {i : Bool} (h : Q (.bl false) H) : rIsi K [.bl i, .ty "dict"] H Q := z_isi (ClsV.ty _) (TyX.base (TyOf.bl _)) kt_bool_dict h
theorem z_isi_NoneType_int  (h : Q (.bl false) H) : rIsi K [.non, .ty "int"] H Q := z_isi (ClsV.ty _) (TyX.base (TyOf.non)) kt_NoneType_int h
theorem z_isi_NoneType_bool  (h : Q (.bl false) H) : rIsi K [.non, .ty "bool"] H Q := z_isi (ClsV.ty _) (TyX.base (TyOf.non)) kt_NoneType_bool h
theorem z_isi_NoneType_str  (h : Q (.bl false) H) : rIsi K [.non, .ty "str"] H Q := z_isi (ClsV.ty _) (TyX.base (TyOf.non)) kt_NoneType_str h
theorem z_isi_NoneType_list  (h : Q (.bl false) H) : rIsi K [.non, .ty "list"] H Q := z_isi (ClsV.ty _) (TyX.base (TyOf.non)) kt_NoneType_list h
theorem z_isi_NoneType_tuple  (h : Q (.bl false) H) : rIsi K [.non, .ty "tuple"] H Q := z_isi (ClsV.ty _) (TyX.base (TyOf.non)) kt_NoneType_tuple h
theorem z_isi_NoneType_dict  (h : Q (.bl false) H) : rIsi K [.non, .ty "dict"] H Q := z_isi (ClsV.ty _) (TyX.base (TyOf.non)) kt_NoneType_dict h
theorem z_isi0 {a : Addr} {c : V} {t u : Value} {b : Bool} (h1 : ClsV c u) (h2 : TyX K H (.ref a) t) (h3 : PySem.W.kitOne K t u = some b) (h : Q (.bl b) H) : rIsi K [.ref a, c] H Q := z_isi h1 h2 h3 h
theorem z_listL {p : Addr} {ys : List V} (h1 : H p = some (.lst ys)) (h : ∀ l H1, H l = none → Fr [] H H1 → H1 l = some (.lst ys) → Q (.ref l) H1) : rListU K [V.ref p] H Q := ⟨p, ys, rfl, Or.inl (SqL.of h1), z_new h⟩
/-! ### methods of lists -/
def oBM (K : PySem.W.Frag) (T : String) (x : V) (R : Hp → Prop) (H : Hp) : Prop := tyV K T x H ∧ R H
theorem z_bm0 {T : String} {r : V → List V → Hp → VK → Prop} {to : TE} (h : to σ H fun x H1 => oBM K T x (fun H1 => r x [] H1 Q) H1) : tBM0 K T r to σ H Q := h
theorem z_bm {T : String} {r : V → List V → Hp → VK → Prop} {to : TE} {t : TA} (h : to σ H fun x H1 => oBM K T x (fun H1 => t σ H1 fun xs H2 => r x xs H2 Q) H1) : tBM K T r to t σ H Q := h
theorem z_bmL {p : Addr} {xs : List V} {R : Hp → Prop} (h1 : H p = some (.lst xs)) (h : R H) : oBM K "list" (.ref p) R H := ⟨Or.inl ⟨rfl, xs, SqL.of h1⟩, h⟩
theorem z_bmS {z : Str} {R : Hp → Prop} (h : R H) : oBM K "str" (.str z) R H := ⟨rfl, h⟩
theorem z_append {l : Addr} {xs : List V} {y : V} (h1 : H l = some (.lst xs)) (h2 : xs.length < sizeLine) (h : ∀ H1, Fr [l] H H1 → H1 l = some (.lst (xs ++ [y])) → (∀ b, H b = none → H1 b = none) → Q .non H1) : rAppend (.ref l) [y] H Q := ⟨l, xs, y, rfl, rfl, h1, h2, h _ (Fr.at (by simp)) upd_same (upd_free h1)⟩
theorem z_extend {l b : Addr} {xs zs : List V} (h1 : H l = some (.lst xs)) (h2 : H b = some (.lst zs)) (h3 : xs.length + zs.length ≤ sizeLine) (h : ∀ H1, Fr [l] H H1 → H1 l = some (.lst (xs ++ zs)) → (∀ b, H b = none → H1 b = none) → Q .non H1) : rExtend (.ref l) [.ref b] H Q := ⟨l, b, xs, zs, rfl, rfl, h1, h2, h3, h _ (Fr.at (by simp)) upd_same (upd_free h1)⟩
theorem z_pop {l : Addr} {xs : List V} {y : V} (h1 : H l = some (.lst xs)) (h2 : xs[xs.length - 1]? = some y) (h : ∀ H1, Fr [l] H H1 → H1 l = some (.lst xs.dropLast) → (∀ b, H b = none → H1 b = none) → Q y H1) : rPop (.ref l) [] H Q := ⟨l, xs, y, rfl, rfl, h1, h2, h _ (Fr.at (by simp)) upd_same (upd_free h1)⟩
/-! ### the heap behind an in-place change, seen from the entry: q is new since H0 -/
theorem Fr.in {H0 H H1 : Hp} {q : Addr} (f : Fr [] H0 H) (g : Fr [q] H H1) (hq : H0 q = Option.none) : Fr [] H0 H1 := fun b o e _ => g b o (f.g0 e) (by
  have : b ≠ q := fun z => by rw [z, hq] at e; cases e
  simpa using this)
/-! ### loops' heads -/
theorem z_for {wi : TI} {g : TG} {tb : TS} (h : wi σ H fun J H1 => ∃ W : Nat → Nat → L2.St → Hp → Prop, (∃ m, W 0 m σ H1) ∧ ∀ i m σ H, W i m σ H →
  (J.stop i H ∧ D.nx σ H) ∨ (J.go i H ∧ ∃ N : L2.St → Hp → Prop, (∀ σ' H', N σ' H' → ∃ m', m' < m ∧ W (i + 1) m' σ' H') ∧ ∀ x H', J.yld i H x H' → g x σ H' fun σ2 H2 => tb { D with nx := N, ct := N, bk := D.nx } σ2 H2)) : tFor wi g tb D σ H := h
def oIter (K : PySem.W.Frag) (x : V) (H : Hp) (R : It → Hp → Prop) : Prop := ∃ a, x = .ref a ∧ (∃ xs, SqL K H a xs) ∧ R (Itl K a) H
theorem z_iList {tl : TE} {R : It → Hp → Prop} (h : tl σ H fun x H1 => oIter K x H1 R) : iList K tl σ H R := h
theorem z_iList1 {p : Addr} {xs : List V} {R : It → Hp → Prop} (h1 : H p = some (.lst xs)) (h : R (Itl K p) H) : oIter K (.ref p) H R := ⟨p, rfl, ⟨xs, SqL.of h1⟩, h⟩
def oRng1 (vs : List V) (H : Hp) (R : It → Hp → Prop) : Prop := ∃ j : Int, vs = [.int j] ∧ -(2 ^ 62) ≤ j ∧ j < 2 ^ 62 ∧ R (Itr 0 j.toNat) H
theorem z_iRng1 {ta : TA} {R : It → Hp → Prop} (h : ta σ H fun vs H1 => oRng1 vs H1 R) : iRng1 ta σ H R := h
theorem z_rng1 {j : Int} (n : Nat) {R : It → Hp → Prop} (e : j = (n : Int)) (h1 : n < 2 ^ 62) (h : R (Itr 0 n) H) : oRng1 [.int j] H R := ⟨j, rfl, by omega, by omega, by subst e; rw [Int.toNat_natCast]; exact h⟩
def oRng2 (vs : List V) (H : Hp) (R : It → Hp → Prop) : Prop := ∃ i j : Int, vs = [.int i, .int j] ∧ (-(2 ^ 62) ≤ i ∧ i < 2 ^ 62 ∧ -(2 ^ 62) ≤ j ∧ j < 2 ^ 62) ∧ R (Itr i (j - i).toNat) H
theorem z_iRng2 {ta : TA} {R : It → Hp → Prop} (h : ta σ H fun vs H1 => oRng2 vs H1 R) : iRng2 ta σ H R := h
theorem z_rng2 {i j : Int} (n : Nat) {R : It → Hp → Prop} (e : (j - i).toNat = n) (h1 : -(2 ^ 62) ≤ i ∧ i < 2 ^ 62 ∧ -(2 ^ 62) ≤ j ∧ j < 2 ^ 62) (h : R (Itr i n) H) : oRng2 [.int i, .int j] H R := ⟨i, j, rfl, h1, by rw [e]; exact h⟩
/-- a comprehension's loop -/
def oLc (J : It) (g : TG) (tt : TT) (te : TE) (vs : List Nat) (σ : L2.St) (H1 : Hp) (Q : VK) : Prop := ∀ D, H1 D = none → ∃ W : Nat → Nat → Hp → Prop, (∃ m, W 0 m (upd H1 D (.lst []))) ∧ ∀ i m H, W i m H →
  (J.stop i H ∧ Q (.ref D) H) ∨ (J.go i H ∧ ∃ N : Hp → Prop, (∀ H', N H' → ∃ m', m' < m ∧ W (i + 1) m' H') ∧ ∀ x H', J.yld i H x H' → g x (wipe σ vs) H' fun σ2 H2 => wipe σ2 vs = wipe σ vs ∧ tt σ2 H2 fun b H3 =>
    if b = true then te σ2 H3 fun y H4 => ∃ acc, H4 D = some (.lst acc) ∧ acc.length < sizeLine ∧ N (upd H4 D (.lst (acc ++ [y]))) else N H3)
theorem z_lc {wi : TI} {g : TG} {tt : TT} {te : TE} {vs : List Nat} (h : wi σ H fun J H1 => oLc J g tt te vs σ H1 Q) : tLc wi g tt te vs σ H Q := h
theorem z_iteTT {A B : Prop} (h : A) : if true = true then A else B := iteT h
theorem z_iteFF {A B : Prop} (h : B) : if false = true then A else B := iteF h
theorem z_iteNT {A B : Prop} (h : B) : if (!true) = true then A else B := h
theorem z_iteNF {A B : Prop} (h : A) : if (!false) = true then A else B := h
theorem z_iteS1 {α : Type} {v : α} {A B : Prop} (h : A) : if (some v).isSome = true then A else B := h
theorem z_iteS2 {α : Type} {v : α} {A B : Prop} (h : B) : if (!(some v).isSome) = true then A else B := h
theorem z_iteS3 {α : Type} {A B : Prop} (h : B) : if (none : Option α).isSome = true then A else B := h
theorem z_iteS4 {α : Type} {A B : Prop} (h : A) : if (!(none : Option α).isSome) = true then A else B := h
theorem z_lockAsg {te : TE} {i : Nat} (h : tLockE te σ H fun x H1 => gName i x σ H1 D.nx) : tLock (tAsg te (gName i)) D σ H := h
theorem z_sortedL {a : Addr} {ns : List Int} (h1 : H a = some (.lst (ns.map V.int))) (h : ∀ (ns' : List Int) p H1, ns'.Perm ns → ns'.Pairwise (· ≤ ·) → H p = none → Fr [] H H1 → H1 p = some (.lst (ns'.map V.int)) → Q (.ref p) H1) : rSortedU K [.ref a] H Q := ⟨a, ns, rfl, Or.inl (SqL.of h1), fun ns' p e1 e2 hp => h ns' p _ e1 e2 hp (Fr.new hp) upd_same⟩
theorem z_sortedD {a : Addr} {kvs : List (Key × V)} {ns : List Int} (h1 : H a = some (.dK kvs)) (h2 : kvs.map (·.1) = ns.map Sum.inl) (h : ∀ (ns' : List Int) p H1, ns'.Perm ns → ns'.Pairwise (· ≤ ·) → H p = none → Fr [] H H1 → H1 p = some (.lst (ns'.map V.int)) → Q (.ref p) H1) : rSortedU K [.ref a] H Q := ⟨a, ns, rfl, Or.inr ⟨kvs, Rd.of h1, h2⟩, fun ns' p e1 e2 hp => h ns' p _ e1 e2 hp (Fr.new hp) upd_same⟩
theorem z_start {N : List Str} {vs : List V} {t : TS} {σ : L2.St} (e : L2.start N vs = σ) (h : t D σ H) : t D (L2.start N vs) H := by rw [e]; exact h
theorem z_ok {A B : Prop} (a : A) (b : B) : A ∧ B := ⟨a, b⟩
theorem z_var0 {v : V} {l : L2.St} (h : Q v H) : tVar 0 (some v :: l) H Q := ⟨v, rfl, h⟩
theorem z_nm0 {y : Option V} {v : V} {l : L2.St} {Q : L2.St → Hp → Prop} (h : Q (some v :: l) H) : gName 0 v (y :: l) H Q := h
theorem z_var1 {x0 : Option V} {v : V} {l : L2.St} (h : Q v H) : tVar 1 (x0 :: some v :: l) H Q := ⟨v, rfl, h⟩
theorem z_nm1 {x0 : Option V} {y : Option V} {v : V} {l : L2.St} {Q : L2.St → Hp → Prop} (h : Q (x0 :: some v :: l) H) : gName 1 v (x0 :: y :: l) H Q := h
theorem z_var2 {x0 x1 : Option V} {v : V} {l : L2.St} (h : Q v H) : tVar 2 (x0 :: x1 :: some v :: l) H Q := ⟨v, rfl, h⟩
theorem z_nm2 {x0 x1 : Option V} {y : Option V} {v : V} {l : L2.St} {Q : L2.St → Hp → Prop} (h : Q (x0 :: x1 :: some v :: l) H) : gName 2 v (x0 :: x1 :: y :: l) H Q := h
theorem z_var3 {x0 x1 x2 : Option V} {v : V} {l : L2.St} (h : Q v H) : tVar 3 (x0 :: x1 :: x2 :: some v :: l) H Q := ⟨v, rfl, h⟩
theorem z_nm3 {x0 x1 x2 : Option V} {y : Option V} {v : V} {l : L2.St} {Q : L2.St → Hp → Prop} (h : Q (x0 :: x1 :: x2 :: some v :: l) H) : gName 3 v (x0 :: x1 :: x2 :: y :: l) H Q := h
theorem z_var4 {x0 x1 x2 x3 : Option V} {v : V} {l : L2.St} (h : Q v H) : tVar 4 (x0 :: x1 :: x2 :: x3 :: some v :: l) H Q := ⟨v, rfl, h⟩
theorem z_nm4 {x0 x1 x2 x3 : Option V} {y : Option V} {v : V} {l : L2.St} {Q : L2.St → Hp → Prop} (h : Q (x0 :: x1 :: x2 :: x3 :: some v :: l) H) : gName 4 v (x0 :: x1 :: x2 :: x3 :: y :: l) H Q := h
theorem z_var5 {x0 x1 x2 x3 x4 : Option V} {v : V} {l : L2.St} (h : Q v H) : tVar 5 (x0 :: x1 :: x2 :: x3 :: x4 :: some v :: l) H Q := ⟨v, rfl, h⟩
theorem z_nm5 {x0 x1 x2 x3 x4 : Option V} {y : Option V} {v : V} {l : L2.St} {Q : L2.St → Hp → Prop} (h : Q (x0 :: x1 :: x2 :: x3 :: x4 :: some v :: l) H) : gName 5 v (x0 :: x1 :: x2 :: x3 :: x4 :: y :: l) H Q := h
theorem z_var6 {x0 x1 x2 x3 x4 x5 : Option V} {v : V} {l : L2.St} (h : Q v H) : tVar 6 (x0 :: x1 :: x2 :: x3 :: x4 :: x5 :: some v :: l) H Q := ⟨v, rfl, h⟩
theorem z_nm6 {x0 x1 x2 x3 x4 x5 : Option V} {y : Option V} {v : V} {l : L2.St} {Q : L2.St → Hp → Prop} (h : Q (x0 :: x1 :: x2 :: x3 :: x4 :: x5 :: some v :: l) H) : gName 6 v (x0 :: x1 :: x2 :: x3 :: x4 :: x5 :: y :: l) H Q := h
theorem z_var7 {x0 x1 x2 x3 x4 x5 x6 : Option V} {v : V} {l : L2.St} (h : Q v H) : tVar 7 (x0 :: x1 :: x2 :: x3 :: x4 :: x5 :: x6 :: some v :: l) H Q := ⟨v, rfl, h⟩
theorem z_nm7 {x0 x1 x2 x3 x4 x5 x6 : Option V} {y : Option V} {v : V} {l : L2.St} {Q : L2.St → Hp → Prop} (h : Q (x0 :: x1 :: x2 :: x3 :: x4 :: x5 :: x6 :: some v :: l) H) : gName 7 v (x0 :: x1 :: x2 :: x3 :: x4 :: x5 :: x6 :: y :: l) H Q := h
theorem z_var8 {x0 x1 x2 x3 x4 x5 x6 x7 : Option V} {v : V} {l : L2.St} (h : Q v H) : tVar 8 (x0 :: x1 :: x2 :: x3 :: x4 :: x5 :: x6 :: x7 :: some v :: l) H Q := ⟨v, rfl, h⟩
theorem z_nm8 {x0 x1 x2 x3 x4 x5 x6 x7 : Option V} {y : Option V} {v : V} {l : L2.St} {Q : L2.St → Hp → Prop} (h : Q (x0 :: x1 :: x2 :: x3 :: x4 :: x5 :: x6 :: x7 :: some v :: l) H) : gName 8 v (x0 :: x1 :: x2 :: x3 :: x4 :: x5 :: x6 :: x7 :: y :: l) H Q := h
theorem z_var9 {x0 x1 x2 x3 x4 x5 x6 x7 x8 : Option V} {v : V} {l : L2.St} (h : Q v H) : tVar 9 (x0 :: x1 :: x2 :: x3 :: x4 :: x5 :: x6 :: x7 :: x8 :: some v :: l) H Q := ⟨v, rfl, h⟩
theorem z_nm9 {x0 x1 x2 x3 x4 x5 x6 x7 x8 : Option V} {y : Option V} {v : V} {l : L2.St} {Q : L2.St → Hp → Prop} (h : Q (x0 :: x1 :: x2 :: x3 :: x4 :: x5 :: x6 :: x7 :: x8 :: some v :: l) H) : gName 9 v (x0 :: x1 :: x2 :: x3 :: x4 :: x5 :: x6 :: x7 :: x8 :: y :: l) H Q := h
theorem z_var10 {x0 x1 x2 x3 x4 x5 x6 x7 x8 x9 : Option V} {v : V} {l : L2.St} (h : Q v H) : tVar 10 (x0 :: x1 :: x2 :: x3 :: x4 :: x5 :: x6 :: x7 :: x8 :: x9 :: some v :: l) H Q := ⟨v, rfl, h⟩
theorem z_nm10 {x0 x1 x2 x3 x4 x5 x6 x7 x8 x9 : Option V} {y : Option V} {v : V} {l : L2.St} {Q : L2.St → Hp → Prop} (h : Q (x0 :: x1 :: x2 :: x3 :: x4 :: x5 :: x6 :: x7 :: x8 :: x9 :: some v :: l) H) : gName 10 v (x0 :: x1 :: x2 :: x3 :: x4 :: x5 :: x6 :: x7 :: x8 :: x9 :: y :: l) H Q := h
theorem z_var11 {x0 x1 x2 x3 x4 x5 x6 x7 x8 x9 x10 : Option V} {v : V} {l : L2.St} (h : Q v H) : tVar 11 (x0 :: x1 :: x2 :: x3 :: x4 :: x5 :: x6 :: x7 :: x8 :: x9 :: x10 :: some v :: l) H Q := ⟨v, rfl, h⟩
theorem z_nm11 {x0 x1 x2 x3 x4 x5 x6 x7 x8 x9 x10 : Option V} {y : Option V} {v : V} {l : L2.St} {Q : L2.St → Hp → Prop} (h : Q (x0 :: x1 :: x2 :: x3 :: x4 :: x5 :: x6 :: x7 :: x8 :: x9 :: x10 :: some v :: l) H) : gName 11 v (x0 :: x1 :: x2 :: x3 :: x4 :: x5 :: x6 :: x7 :: x8 :: x9 :: x10 :: y :: l) H Q := h
theorem z_var12 {x0 x1 x2 x3 x4 x5 x6 x7 x8 x9 x10 x11 : Option V} {v : V} {l : L2.St} (h : Q v H) : tVar 12 (x0 :: x1 :: x2 :: x3 :: x4 :: x5 :: x6 :: x7 :: x8 :: x9 :: x10 :: x11 :: some v :: l) H Q := ⟨v, rfl, h⟩
theorem z_nm12 {x0 x1 x2 x3 x4 x5 x6 x7 x8 x9 x10 x11 : Option V} {y : Option V} {v : V} {l : L2.St} {Q : L2.St → Hp → Prop} (h : Q (x0 :: x1 :: x2 :: x3 :: x4 :: x5 :: x6 :: x7 :: x8 :: x9 :: x10 :: x11 :: some v :: l) H) : gName 12 v (x0 :: x1 :: x2 :: x3 :: x4 :: x5 :: x6 :: x7 :: x8 :: x9 :: x10 :: x11 :: y :: l) H Q := h
theorem z_var13 {x0 x1 x2 x3 x4 x5 x6 x7 x8 x9 x10 x11 x12 : Option V} {v : V} {l : L2.St} (h : Q v H) : tVar 13 (x0 :: x1 :: x2 :: x3 :: x4 :: x5 :: x6 :: x7 :: x8 :: x9 :: x10 :: x11 :: x12 :: some v :: l) H Q := ⟨v, rfl, h⟩
theorem z_nm13 {x0 x1 x2 x3 x4 x5 x6 x7 x8 x9 x10 x11 x12 : Option V} {y : Option V} {v : V} {l : L2.St} {Q : L2.St → Hp → Prop} (h : Q (x0 :: x1 :: x2 :: x3 :: x4 :: x5 :: x6 :: x7 :: x8 :: x9 :: x10 :: x11 :: x12 :: some v :: l) H) : gName 13 v (x0 :: x1 :: x2 :: x3 :: x4 :: x5 :: x6 :: x7 :: x8 :: x9 :: x10 :: x11 :: x12 :: y :: l) H Q := h
theorem z_var14 {x0 x1 x2 x3 x4 x5 x6 x7 x8 x9 x10 x11 x12 x13 : Option V} {v : V} {l : L2.St} (h : Q v H) : tVar 14 (x0 :: x1 :: x2 :: x3 :: x4 :: x5 :: x6 :: x7 :: x8 :: x9 :: x10 :: x11 :: x12 :: x13 :: some v :: l) H Q := ⟨v, rfl, h⟩
theorem z_nm14 {x0 x1 x2 x3 x4 x5 x6 x7 x8 x9 x10 x11 x12 x13 : Option V} {y : Option V} {v : V} {l : L2.St} {Q : L2.St → Hp → Prop} (h : Q (x0 :: x1 :: x2 :: x3 :: x4 :: x5 :: x6 :: x7 :: x8 :: x9 :: x10 :: x11 :: x12 :: x13 :: some v :: l) H) : gName 14 v (x0 :: x1 :: x2 :: x3 :: x4 :: x5 :: x6 :: x7 :: x8 :: x9 :: x10 :: x11 :: x12 :: x13 :: y :: l) H Q := h
theorem z_var15 {x0 x1 x2 x3 x4 x5 x6 x7 x8 x9 x10 x11 x12 x13 x14 : Option V} {v : V} {l : L2.St} (h : Q v H) : tVar 15 (x0 :: x1 :: x2 :: x3 :: x4 :: x5 :: x6 :: x7 :: x8 :: x9 :: x10 :: x11 :: x12 :: x13 :: x14 :: some v :: l) H Q := ⟨v, rfl, h⟩
theorem z_nm15 {x0 x1 x2 x3 x4 x5 x6 x7 x8 x9 x10 x11 x12 x13 x14 : Option V} {y : Option V} {v : V} {l : L2.St} {Q : L2.St → Hp → Prop} (h : Q (x0 :: x1 :: x2 :: x3 :: x4 :: x5 :: x6 :: x7 :: x8 :: x9 :: x10 :: x11 :: x12 :: x13 :: x14 :: some v :: l) H) : gName 15 v (x0 :: x1 :: x2 :: x3 :: x4 :: x5 :: x6 :: x7 :: x8 :: x9 :: x10 :: x11 :: x12 :: x13 :: x14 :: y :: l) H Q := h
theorem z_var16 {x0 x1 x2 x3 x4 x5 x6 x7 x8 x9 x10 x11 x12 x13 x14 x15 : Option V} {v : V} {l : L2.St} (h : Q v H) : tVar 16 (x0 :: x1 :: x2 :: x3 :: x4 :: x5 :: x6 :: x7 :: x8 :: x9 :: x10 :: x11 :: x12 :: x13 :: x14 :: x15 :: some v :: l) H Q := ⟨v, rfl, h⟩
theorem z_nm16 {x0 x1 x2 x3 x4 x5 x6 x7 x8 x9 x10 x11 x12 x13 x14 x15 : Option V} {y : Option V} {v : V} {l : L2.St} {Q : L2.St → Hp → Prop} (h : Q (x0 :: x1 :: x2 :: x3 :: x4 :: x5 :: x6 :: x7 :: x8 :: x9 :: x10 :: x11 :: x12 :: x13 :: x14 :: x15 :: some v :: l) H) : gName 16 v (x0 :: x1 :: x2 :: x3 :: x4 :: x5 :: x6 :: x7 :: x8 :: x9 :: x10 :: x11 :: x12 :: x13 :: x14 :: x15 :: y :: l) H Q := h
theorem z_var17 {x0 x1 x2 x3 x4 x5 x6 x7 x8 x9 x10 x11 x12 x13 x14 x15 x16 : Option V} {v : V} {l : L2.St} (h : Q v H) : tVar 17 (x0 :: x1 :: x2 :: x3 :: x4 :: x5 :: x6 :: x7 :: x8 :: x9 :: x10 :: x11 :: x12 :: x13 :: x14 :: x15 :: x16 :: some v :: l) H Q := ⟨v, rfl, h⟩
theorem z_nm17 {x0 x1 x2 x3 x4 x5 x6 x7 x8 x9 x10 x11 x12 x13 x14 x15 x16 : Option V} {y : Option V} {v : V} {l : L2.St} {Q : L2.St → Hp → Prop} (h : Q (x0 :: x1 :: x2 :: x3 :: x4 :: x5 :: x6 :: x7 :: x8 :: x9 :: x10 :: x11 :: x12 :: x13 :: x14 :: x15 :: x16 :: some v :: l) H) : gName 17 v (x0 :: x1 :: x2 :: x3 :: x4 :: x5 :: x6 :: x7 :: x8 :: x9 :: x10 :: x11 :: x12 :: x13 :: x14 :: x15 :: x16 :: y :: l) H Q := h
theorem z_var18 {x0 x1 x2 x3 x4 x5 x6 x7 x8 x9 x10 x11 x12 x13 x14 x15 x16 x17 : Option V} {v : V} {l : L2.St} (h : Q v H) : tVar 18 (x0 :: x1 :: x2 :: x3 :: x4 :: x5 :: x6 :: x7 :: x8 :: x9 :: x10 :: x11 :: x12 :: x13 :: x14 :: x15 :: x16 :: x17 :: some v :: l) H Q := ⟨v, rfl, h⟩
theorem z_nm18 {x0 x1 x2 x3 x4 x5 x6 x7 x8 x9 x10 x11 x12 x13 x14 x15 x16 x17 : Option V} {y : Option V} {v : V} {l : L2.St} {Q : L2.St → Hp → Prop} (h : Q (x0 :: x1 :: x2 :: x3 :: x4 :: x5 :: x6 :: x7 :: x8 :: x9 :: x10 :: x11 :: x12 :: x13 :: x14 :: x15 :: x16 :: x17 :: some v :: l) H) : gName 18 v (x0 :: x1 :: x2 :: x3 :: x4 :: x5 :: x6 :: x7 :: x8 :: x9 :: x10 :: x11 :: x12 :: x13 :: x14 :: x15 :: x16 :: x17 :: y :: l) H Q := h
theorem z_var19 {x0 x1 x2 x3 x4 x5 x6 x7 x8 x9 x10 x11 x12 x13 x14 x15 x16 x17 x18 : Option V} {v : V} {l : L2.St} (h : Q v H) : tVar 19 (x0 :: x1 :: x2 :: x3 :: x4 :: x5 :: x6 :: x7 :: x8 :: x9 :: x10 :: x11 :: x12 :: x13 :: x14 :: x15 :: x16 :: x17 :: x18 :: some v :: l) H Q := ⟨v, rfl, h⟩
theorem z_nm19 {x0 x1 x2 x3 x4 x5 x6 x7 x8 x9 x10 x11 x12 x13 x14 x15 x16 x17 x18 : Option V} {y : Option V} {v : V} {l : L2.St} {Q : L2.St → Hp → Prop} (h : Q (x0 :: x1 :: x2 :: x3 :: x4 :: x5 :: x6 :: x7 :: x8 :: x9 :: x10 :: x11 :: x12 :: x13 :: x14 :: x15 :: x16 :: x17 :: x18 :: some v :: l) H) : gName 19 v (x0 :: x1 :: x2 :: x3 :: x4 :: x5 :: x6 :: x7 :: x8 :: x9 :: x10 :: x11 :: x12 :: x13 :: x14 :: x15 :: x16 :: x17 :: x18 :: y :: l) H Q := h
theorem z_var20 {x0 x1 x2 x3 x4 x5 x6 x7 x8 x9 x10 x11 x12 x13 x14 x15 x16 x17 x18 x19 : Option V} {v : V} {l : L2.St} (h : Q v H) : tVar 20 (x0 :: x1 :: x2 :: x3 :: x4 :: x5 :: x6 :: x7 :: x8 :: x9 :: x10 :: x11 :: x12 :: x13 :: x14 :: x15 :: x16 :: x17 :: x18 :: x19 :: some v :: l) H Q := ⟨v, rfl, h⟩
theorem z_nm20 {x0 x1 x2 x3 x4 x5 x6 x7 x8 x9 x10 x11 x12 x13 x14 x15 x16 x17 x18 x19 : Option V} {y : Option V} {v : V} {l : L2.St} {Q : L2.St → Hp → Prop} (h : Q (x0 :: x1 :: x2 :: x3 :: x4 :: x5 :: x6 :: x7 :: x8 :: x9 :: x10 :: x11 :: x12 :: x13 :: x14 :: x15 :: x16 :: x17 :: x18 :: x19 :: some v :: l) H) : gName 20 v (x0 :: x1 :: x2 :: x3 :: x4 :: x5 :: x6 :: x7 :: x8 :: x9 :: x10 :: x11 :: x12 :: x13 :: x14 :: x15 :: x16 :: x17 :: x18 :: x19 :: y :: l) H Q := h
theorem z_var21 {x0 x1 x2 x3 x4 x5 x6 x7 x8 x9 x10 x11 x12 x13 x14 x15 x16 x17 x18 x19 x20 : Option V} {v : V} {l : L2.St} (h : Q v H) : tVar 21 (x0 :: x1 :: x2 :: x3 :: x4 :: x5 :: x6 :: x7 :: x8 :: x9 :: x10 :: x11 :: x12 :: x13 :: x14 :: x15 :: x16 :: x17 :: x18 :: x19 :: x20 :: some v :: l) H Q := ⟨v, rfl, h⟩
theorem z_nm21 {x0 x1 x2 x3 x4 x5 x6 x7 x8 x9 x10 x11 x12 x13 x14 x15 x16 x17 x18 x19 x20 : Option V} {y : Option V} {v : V} {l : L2.St} {Q : L2.St → Hp → Prop} (h : Q (x0 :: x1 :: x2 :: x3 :: x4 :: x5 :: x6 :: x7 :: x8 :: x9 :: x10 :: x11 :: x12 :: x13 :: x14 :: x15 :: x16 :: x17 :: x18 :: x19 :: x20 :: some v :: l) H) : gName 21 v (x0 :: x1 :: x2 :: x3 :: x4 :: x5 :: x6 :: x7 :: x8 :: x9 :: x10 :: x11 :: x12 :: x13 :: x14 :: x15 :: x16 :: x17 :: x18 :: x19 :: x20 :: y :: l) H Q := h
theorem z_var22 {x0 x1 x2 x3 x4 x5 x6 x7 x8 x9 x10 x11 x12 x13 x14 x15 x16 x17 x18 x19 x20 x21 : Option V} {v : V} {l : L2.St} (h : Q v H) : tVar 22 (x0 :: x1 :: x2 :: x3 :: x4 :: x5 :: x6 :: x7 :: x8 :: x9 :: x10 :: x11 :: x12 :: x13 :: x14 :: x15 :: x16 :: x17 :: x18 :: x19 :: x20 :: x21 :: some v :: l) H Q := ⟨v, rfl, h⟩
theorem z_nm22 {x0 x1 x2 x3 x4 x5 x6 x7 x8 x9 x10 x11 x12 x13 x14 x15 x16 x17 x18 x19 x20 x21 : Option V} {y : Option V} {v : V} {l : L2.St} {Q : L2.St → Hp → Prop} (h : Q (x0 :: x1 :: x2 :: x3 :: x4 :: x5 :: x6 :: x7 :: x8 :: x9 :: x10 :: x11 :: x12 :: x13 :: x14 :: x15 :: x16 :: x17 :: x18 :: x19 :: x20 :: x21 :: some v :: l) H) : gName 22 v (x0 :: x1 :: x2 :: x3 :: x4 :: x5 :: x6 :: x7 :: x8 :: x9 :: x10 :: x11 :: x12 :: x13 :: x14 :: x15 :: x16 :: x17 :: x18 :: x19 :: x20 :: x21 :: y :: l) H Q := h
theorem z_var23 {x0 x1 x2 x3 x4 x5 x6 x7 x8 x9 x10 x11 x12 x13 x14 x15 x16 x17 x18 x19 x20 x21 x22 : Option V} {v : V} {l : L2.St} (h : Q v H) : tVar 23 (x0 :: x1 :: x2 :: x3 :: x4 :: x5 :: x6 :: x7 :: x8 :: x9 :: x10 :: x11 :: x12 :: x13 :: x14 :: x15 :: x16 :: x17 :: x18 :: x19 :: x20 :: x21 :: x22 :: some v :: l) H Q := ⟨v, rfl, h⟩
theorem z_nm23 {x0 x1 x2 x3 x4 x5 x6 x7 x8 x9 x10 x11 x12 x13 x14 x15 x16 x17 x18 x19 x20 x21 x22 : Option V} {y : Option V} {v : V} {l : L2.St} {Q : L2.St → Hp → Prop} (h : Q (x0 :: x1 :: x2 :: x3 :: x4 :: x5 :: x6 :: x7 :: x8 :: x9 :: x10 :: x11 :: x12 :: x13 :: x14 :: x15 :: x16 :: x17 :: x18 :: x19 :: x20 :: x21 :: x22 :: some v :: l) H) : gName 23 v (x0 :: x1 :: x2 :: x3 :: x4 :: x5 :: x6 :: x7 :: x8 :: x9 :: x10 :: x11 :: x12 :: x13 :: x14 :: x15 :: x16 :: x17 :: x18 :: x19 :: x20 :: x21 :: x22 :: y :: l) H Q := h
/-! the same as instances: the step is found by its head -/
class Stp (goal : Prop) (sub : outParam Prop) : Prop where
  h : sub → goal
instance i_z_seq {t u : TS} : Stp (tSeq t u D σ H) (t { D with nx := u D } σ H) := ⟨z_seq⟩
instance i_z_next : Stp (tNext D σ H) (D.nx σ H) := ⟨z_next⟩
instance i_z_brk : Stp (tBreak D σ H) (D.bk σ H) := ⟨z_brk⟩
instance i_z_cont : Stp (tCont D σ H) (D.ct σ H) := ⟨z_cont⟩
instance i_z_asg {te : TE} {g : TG} : Stp (tAsg te g D σ H) (te σ H fun x H1 => g x σ H1 D.nx) := ⟨z_asg⟩
instance i_z_drop {te : TE} : Stp (tDrop te D σ H) (te σ H fun _ H1 => D.nx σ H1) := ⟨z_drop⟩
instance i_z_ret {te : TE} : Stp (tRet te D σ H) (te σ H D.rt) := ⟨z_ret⟩
instance i_z_retN : Stp (tRetN D σ H) (D.rt .non H) := ⟨z_retN⟩
instance i_z_ifs {c : TT} {t u : TS} : Stp (tIfS c t u D σ H) (c σ H fun b H1 => if b = true then t D σ H1 else u D σ H1) := ⟨z_ifs⟩
instance i_z_cut {t u : TS} : Stp (Evl.tCut t u D σ H) (∃ Mid : L2.St → Hp → Prop, t { D with nx := Mid } σ H ∧ ∀ σ' H', Mid σ' H' → u D σ' H') := ⟨z_cut⟩
instance i_z_flds {ta tv : TE} {f : Str} : Stp (sFld K ta tv f D σ H) (tv σ H fun y H1 => ta σ H1 fun x H2 => oFldS K f x y (D.nx σ) H2) := ⟨z_flds⟩
instance i_z_dput {td ty tv : TE} : Stp (sDPut td ty tv D σ H) (tv σ H fun v H1 => td σ H1 fun x H2 => ty σ H2 fun y H3 => oDPut x y v (D.nx σ) H3) := ⟨z_dput⟩
instance i_z_gcons {t : TG} {u : TGs} {v : V} {r : List V} {Q : L2.St → Hp → Prop} : Stp (gCons t u (v :: r) σ H Q) (t v σ H fun σ' H' => u r σ' H' Q) := ⟨z_gcons⟩
instance i_z_gnil {Q : L2.St → Hp → Prop} : Stp (gNil [] σ H Q) (Q σ H) := ⟨z_gnil⟩
instance i_z_gsub {to ti : TE} {t : TSet} {v : V} {Q : L2.St → Hp → Prop} : Stp (gSub to ti t v σ H Q) (to σ H fun o H1 => ti σ H1 fun i H2 => t o i v H2 fun H3 => Q σ H3) := ⟨z_gsub⟩
instance i_z_c {v : V} : Stp (tC v σ H Q) (Q v H) := ⟨z_c⟩
instance i_z_op {r : R2} {ta tb : TE} : Stp (tOp r ta tb σ H Q) (ta σ H fun x H1 => tb σ H1 fun y H2 => r x y H2 Q) := ⟨z_op⟩
instance i_z_un {r : V → Hp → VK → Prop} {ta : TE} : Stp (tUn r ta σ H Q) (ta σ H fun x H1 => r x H1 Q) := ⟨z_un⟩
instance i_z_tup {t : TA} : Stp (tTup t σ H Q) (t σ H fun xs H1 => oNew (.tup xs) xs.length H1 Q) := ⟨z_tup⟩
instance i_z_lst {t : TA} : Stp (tLst t σ H Q) (t σ H fun xs H1 => oNew (.lst xs) xs.length H1 Q) := ⟨z_lst⟩
instance i_z_dnew : Stp (tDNewK σ H Q) (∀ p H1, H p = none → Fr [] H H1 → H1 p = some (.dK []) → Q (.ref p) H1) := ⟨z_dnew⟩
instance i_z_nil {Q : List V → Hp → Prop} : Stp (tNil σ H Q) (Q [] H) := ⟨z_nil⟩
instance i_z_cons {ta : TE} {tr : TA} {Q : List V → Hp → Prop} : Stp (tCons ta tr σ H Q) (ta σ H fun x H1 => tr σ H1 fun xs H2 => Q (x :: xs) H2) := ⟨z_cons⟩
instance i_z_cb {r : List V → Hp → VK → Prop} {t : TA} : Stp (tCB r t σ H Q) (t σ H fun vs H1 => r vs H1 Q) := ⟨z_cb⟩
instance i_z_call {sp : Sp} {dvs : List V} {E : XK} {t : TA} : Stp (tCall sp dvs E t σ H Q) (t σ H fun vs H1 => sp (vs ++ dvs) H1 Q E) := ⟨z_call⟩
instance i_z_meth {C : Addr} {m : Str} {sp : Sp} {dvs : List V} {E : XK} {ta : TE} {t : TA} : Stp (tMeth C m sp dvs E ta t σ H Q) (ta σ H fun x H1 => oMeth C m x (fun H1 => t σ H1 fun vs H2 => sp (x :: (vs ++ dvs)) H2 Q E) H1) := ⟨z_meth⟩
instance i_z_make {C : Addr} {sp : Sp} {dvs : List V} {E : XK} {t : TA} : Stp (tMake C sp dvs E t σ H Q) (t σ H fun vs H1 => ∀ x dx, H1 x = none → H1 dx = none → dx ≠ x → sp (.ref x :: (vs ++ dvs)) (upd (upd H1 dx (.own x)) x (.ins C dx [])) (fun v H2 => v = .non ∧ Q (.ref x) H2) E) := ⟨z_make⟩
instance i_z_fld {ta : TE} {f : Str} : Stp (tFld K ta f σ H Q) (ta σ H fun x H1 => oFld K f x H1 Q) := ⟨z_fld⟩
instance i_z_test {t : TE} {Q : Bool → Hp → Prop} : Stp (tTest t σ H Q) (t σ H fun x H' => oBl x H' Q) := ⟨z_test⟩
instance i_z_tB {t : TE} {Q : Bool → Hp → Prop} : Stp (tB t σ H Q) (t σ H fun x H' => oBl x H' Q) := ⟨z_tB⟩
instance i_z_bl {k : Bool} {Q : Bool → Hp → Prop} : Stp (oBl (.bl k) H Q) (Q k H) := ⟨z_bl⟩
instance i_z_truK {ta : TE} {Q : Bool → Hp → Prop} : Stp (tTruK K ta σ H Q) (ta σ H fun x H' => oTru K x H' Q) := ⟨z_truK⟩
instance i_z_truI {k : Bool → Prop} {x : V} : Stp (∃ b, TruV K x H b ∧ k b) (oTru K x H (fun b _ => k b)) := ⟨z_truI⟩
instance i_z_notT {ta : TE} : Stp (tNotT K ta σ H Q) (ta σ H fun x H' => oTru K x H' fun k H' => Q (.bl (!k)) H') := ⟨z_notT⟩
instance i_z_truB {k : Bool} {Q : Bool → Hp → Prop} : Stp (oTru K (.bl k) H Q) (Q k H) := ⟨z_truB⟩
instance i_z_truN {Q : Bool → Hp → Prop} : Stp (oTru K .non H Q) (Q false H) := ⟨z_truN⟩
instance i_z_truZ {i : Int} {Q : Bool → Hp → Prop} : Stp (oTru K (.int i) H Q) (Q (i != 0) H) := ⟨z_truZ⟩
instance i_z_tand {t u : TT} {Q : Bool → Hp → Prop} : Stp (tAnd t u σ H Q) (t σ H fun c H1 => if c = true then u σ H1 Q else Q false H1) := ⟨z_tand⟩
instance i_z_tor {t u : TT} {Q : Bool → Hp → Prop} : Stp (tOr t u σ H Q) (t σ H fun c H1 => if c = true then Q true H1 else u σ H1 Q) := ⟨z_tor⟩
instance i_z_tnot {t : TT} {Q : Bool → Hp → Prop} : Stp (tNot t σ H Q) (t σ H fun c H1 => Q (!c) H1) := ⟨z_tnot⟩
instance i_z_yes {Q : Bool → Hp → Prop} : Stp (tYes σ H Q) (Q true H) := ⟨z_yes⟩
instance i_z_andV {ta tb : TE} : Stp (tAndV ta tb σ H Q) (ta σ H fun x H1 => oBl x H1 fun c H1 => if c = true then tb σ H1 Q else Q (.bl false) H1) := ⟨z_andV⟩
instance i_z_orV {ta tb : TE} : Stp (tOrV ta tb σ H Q) (ta σ H fun x H1 => oBl x H1 fun c H1 => if c = true then Q (.bl true) H1 else tb σ H1 Q) := ⟨z_orV⟩
instance i_z_tIf {t : TT} {ta tb : TE} : Stp (tIf t ta tb σ H Q) (t σ H fun c H1 => if c = true then ta σ H1 Q else tb σ H1 Q) := ⟨z_tIf⟩
instance i_z_addI {i j : Int} : Stp (rAddU K (.int i) (.int j) H Q) (Q (.int (i + j)) H) := ⟨z_addI⟩
instance i_z_rI0 {g : Int → Int → V} {i j : Int} : Stp (rI0 g (.int i) (.int j) H Q) (Q (g i j) H) := ⟨z_rI0⟩
instance i_z_rU {g : Int → V} {i : Int} : Stp (rU g (.int i) H Q) (Q (g i) H) := ⟨z_rU⟩
instance i_z_ordI {f : Int → Int → Bool} {g : List Nat → List Nat → Bool} {i j : Int} : Stp (rOrd f g (.int i) (.int j) H Q) (Q (.bl (f i j)) H) := ⟨z_ordI⟩
instance i_z_ordS {f : Int → Int → Bool} {g : List Nat → List Nat → Bool} {i j : Str} : Stp (rOrd f g (.str i) (.str j) H Q) (Q (.bl (g i.cps.toList j.cps.toList)) H) := ⟨z_ordS⟩
instance i_z_eqI {i j : Int} : Stp (rEqU K id (.int i) (.int j) H Q) (Q (.bl (decide (i = j))) H) := ⟨z_eqI⟩
instance i_z_neI {i j : Int} : Stp (rEqU K (!·) (.int i) (.int j) H Q) (Q (.bl (!decide (i = j))) H) := ⟨z_neI⟩
instance i_z_eqS {i j : Str} : Stp (rEqU K id (.str i) (.str j) H Q) (Q (.bl (decide (i = j))) H) := ⟨z_eqS⟩
instance i_z_neS {i j : Str} : Stp (rEqU K (!·) (.str i) (.str j) H Q) (Q (.bl (!decide (i = j))) H) := ⟨z_neS⟩
instance i_z_isNP {x : V} : Stp (rIsU id x .non H Q) (Q (.bl ((decide (x = .non)))) H) := ⟨z_isNP⟩
instance i_z_isNQ {x : V} : Stp (rIsU (!·) x .non H Q) (Q (.bl (!(decide (x = .non)))) H) := ⟨z_isNQ⟩
instance i_z_isNiP {i : Int} : Stp (rIsU id (.int i) .non H Q) (Q (.bl false) H) := ⟨z_isNiP⟩
instance i_z_isNiN {i : Int} : Stp (rIsU (!·) (.int i) .non H Q) (Q (.bl true) H) := ⟨z_isNiN⟩
instance i_z_isNsP {i : Str} : Stp (rIsU id (.str i) .non H Q) (Q (.bl false) H) := ⟨z_isNsP⟩
instance i_z_isNsN {i : Str} : Stp (rIsU (!·) (.str i) .non H Q) (Q (.bl true) H) := ⟨z_isNsN⟩
instance i_z_isNrP {a : Addr} : Stp (rIsU id (.ref a) .non H Q) (Q (.bl false) H) := ⟨z_isNrP⟩
instance i_z_isNrN {a : Addr} : Stp (rIsU (!·) (.ref a) .non H Q) (Q (.bl true) H) := ⟨z_isNrN⟩
instance i_z_isNbP {b : Bool} : Stp (rIsU id (.bl b) .non H Q) (Q (.bl false) H) := ⟨z_isNbP⟩
instance i_z_isNbN {b : Bool} : Stp (rIsU (!·) (.bl b) .non H Q) (Q (.bl true) H) := ⟨z_isNbN⟩
instance i_z_isNnP : Stp (rIsU id .non .non H Q) (Q (.bl true) H) := ⟨z_isNnP⟩
instance i_z_isNnN : Stp (rIsU (!·) .non .non H Q) (Q (.bl false) H) := ⟨z_isNnN⟩
instance i_z_isBP {x : V} {b : Bool} : Stp (rIsU id x (.bl b) H Q) (Q (.bl ((decide (x = .bl b)))) H) := ⟨z_isBP⟩
instance i_z_isBQ {x : V} {b : Bool} : Stp (rIsU (!·) x (.bl b) H Q) (Q (.bl (!(decide (x = .bl b)))) H) := ⟨z_isBQ⟩
instance i_z_sl {r : V → Option Int → Option Int → Hp → VK → Prop} {te : TE} {tl th : TO} : Stp (tSl r te tl th σ H Q) (te σ H fun x H1 => tl σ H1 fun l H2 => th σ H2 fun u H3 => r x l u H3 Q) := ⟨z_sl⟩
instance i_z_nopart {Q : Option Int → Hp → Prop} : Stp (tNoPart σ H Q) (Q none H) := ⟨z_nopart⟩
instance i_z_part {t : TE} {Q : Option Int → Hp → Prop} : Stp (tPart t σ H Q) (t σ H fun x H1 => oPart x H1 Q) := ⟨z_part⟩
instance i_z_part1 {i : Int} {Q : Option Int → Hp → Prop} : Stp (oPart (.int i) H Q) (Q (some i) H) := ⟨z_part1⟩
instance i_z_intI {i : Int} : Stp (rIntU [.int i] H Q) (Q (.int i) H) := ⟨z_intI⟩
instance i_z_intB {k : Bool} : Stp (rIntU [.bl k] H Q) (Q (.int (if k then 1 else 0)) H) := ⟨z_intB⟩
instance i_z_isi_int_int {i : Int} : Stp (rIsi K [.int i, .ty "int"] H Q) (Q (.bl true) H) := ⟨z_isi_int_int⟩
instance i_z_isi_int_bool {i : Int} : Stp (rIsi K [.int i, .ty "bool"] H Q) (Q (.bl false) H) := ⟨z_isi_int_bool⟩
instance i_z_isi_int_str {i : Int} : Stp (rIsi K [.int i, .ty "str"] H Q) (Q (.bl false) H) := ⟨z_isi_int_str⟩
instance i_z_isi_int_list {i : Int} : Stp (rIsi K [.int i, .ty "list"] H Q) (Q (.bl false) H) := ⟨z_isi_int_list⟩
instance i_z_isi_int_tuple {i : Int} : Stp (rIsi K [.int i, .ty "tuple"] H Q) (Q (.bl false) H) := ⟨z_isi_int_tuple⟩
instance i_z_isi_int_dict {i : Int} : Stp (rIsi K [.int i, .ty "dict"] H Q) (Q (.bl false) H) := ⟨z_isi_int_dict⟩
instance i_z_isi_str_int {i : Str} : Stp (rIsi K [.str i, .ty "int"] H Q) (Q (.bl false) H) := ⟨z_isi_str_int⟩
instance i_z_isi_str_bool {i : Str} : Stp (rIsi K [.str i, .ty "bool"] H Q) (Q (.bl false) H) := ⟨z_isi_str_bool⟩
instance i_z_isi_str_str {i : Str} : Stp (rIsi K [.str i, .ty "str"] H Q) (Q (.bl true) H) := ⟨z_isi_str_str⟩
instance i_z_isi_str_list {i : Str} : Stp (rIsi K [.str i, .ty "list"] H Q) (Q (.bl false) H) := ⟨z_isi_str_list⟩
instance i_z_isi_str_tuple {i : Str} : Stp (rIsi K [.str i, .ty "tuple"] H Q) (Q (.bl false) H) := ⟨z_isi_str_tuple⟩
instance i_z_isi_str_dict {i : Str} : Stp (rIsi K [.str i, .ty "dict"] H Q) (Q (.bl false) H) := ⟨z_isi_str_dict⟩
instance i_z_isi_bool_int {i : Bool} : Stp (rIsi K [.bl i, .ty "int"] H Q) (Q (.bl true) H) := ⟨z_isi_bool_int⟩
instance i_z_isi_bool_bool {i : Bool} : Stp (rIsi K [.bl i, .ty "bool"] H Q) (Q (.bl true) H) := ⟨z_isi_bool_bool⟩
instance i_z_isi_bool_str {i : Bool} : Stp (rIsi K [.bl i, .ty "str"] H Q) (Q (.bl false) H) := ⟨z_isi_bool_str⟩
instance i_z_isi_bool_list {i : Bool} : Stp (rIsi K [.bl i, .ty "list"] H Q) (Q (.bl false) H) := ⟨z_isi_bool_list⟩
instance i_z_isi_bool_tuple {i : Bool} : Stp (rIsi K [.bl i, .ty "tuple"] H Q) (Q (.bl false) H) := ⟨z_isi_bool_tuple⟩
instance i_z_isi_bool_dict {i : Bool} : Stp (rIsi K [.bl i, .ty "dict"] H Q) (Q (.bl false) H) := ⟨z_isi_bool_dict⟩
instance i_z_bm0 {T : String} {r : V → List V → Hp → VK → Prop} {to : TE} : Stp (tBM0 K T r to σ H Q) (to σ H fun x H1 => oBM K T x (fun H1 => r x [] H1 Q) H1) := ⟨z_bm0⟩
instance i_z_bm {T : String} {r : V → List V → Hp → VK → Prop} {to : TE} {t : TA} : Stp (tBM K T r to t σ H Q) (to σ H fun x H1 => oBM K T x (fun H1 => t σ H1 fun xs H2 => r x xs H2 Q) H1) := ⟨z_bm⟩
instance i_z_bmS {z : Str} {R : Hp → Prop} : Stp (oBM K "str" (.str z) R H) (R H) := ⟨z_bmS⟩
instance i_z_for {wi : TI} {g : TG} {tb : TS} : Stp (tFor wi g tb D σ H) (wi σ H fun J H1 => ∃ W : Nat → Nat → L2.St → Hp → Prop, (∃ m, W 0 m σ H1) ∧ ∀ i m σ H, W i m σ H → (J.stop i H ∧ D.nx σ H) ∨ (J.go i H ∧ ∃ N : L2.St → Hp → Prop, (∀ σ' H', N σ' H' → ∃ m', m' < m ∧ W (i + 1) m' σ' H') ∧ ∀ x H', J.yld i H x H' → g x σ H' fun σ2 H2 => tb { D with nx := N, ct := N, bk := D.nx } σ2 H2)) := ⟨z_for⟩
instance i_z_iList {tl : TE} {R : It → Hp → Prop} : Stp (iList K tl σ H R) (tl σ H fun x H1 => oIter K x H1 R) := ⟨z_iList⟩
instance i_z_iRng1 {ta : TA} {R : It → Hp → Prop} : Stp (iRng1 ta σ H R) (ta σ H fun vs H1 => oRng1 vs H1 R) := ⟨z_iRng1⟩
instance i_z_iRng2 {ta : TA} {R : It → Hp → Prop} : Stp (iRng2 ta σ H R) (ta σ H fun vs H1 => oRng2 vs H1 R) := ⟨z_iRng2⟩
instance i_z_lc {wi : TI} {g : TG} {tt : TT} {te : TE} {vs : List Nat} : Stp (tLc wi g tt te vs σ H Q) (wi σ H fun J H1 => oLc J g tt te vs σ H1 Q) := ⟨z_lc⟩
instance i_z_iteTT {A B : Prop} : Stp (if true = true then A else B) (A) := ⟨z_iteTT⟩
instance i_z_iteFF {A B : Prop} : Stp (if false = true then A else B) (B) := ⟨z_iteFF⟩
instance i_z_iteNT {A B : Prop} : Stp (if (!true) = true then A else B) (B) := ⟨z_iteNT⟩
instance i_z_iteNF {A B : Prop} : Stp (if (!false) = true then A else B) (A) := ⟨z_iteNF⟩
instance i_z_iteS1 {α : Type} {v : α} {A B : Prop} : Stp (if (some v).isSome = true then A else B) (A) := ⟨z_iteS1⟩
instance i_z_iteS2 {α : Type} {v : α} {A B : Prop} : Stp (if (!(some v).isSome) = true then A else B) (B) := ⟨z_iteS2⟩
instance i_z_iteS3 {α : Type} {A B : Prop} : Stp (if (none : Option α).isSome = true then A else B) (B) := ⟨z_iteS3⟩
instance i_z_iteS4 {α : Type} {A B : Prop} : Stp (if (!(none : Option α).isSome) = true then A else B) (A) := ⟨z_iteS4⟩
instance i_z_lockAsg {te : TE} {i : Nat} : Stp (tLock (tAsg te (gName i)) D σ H) (tLockE te σ H fun x H1 => gName i x σ H1 D.nx) := ⟨z_lockAsg⟩
instance i_z_var0 {v : V} {l : L2.St} : Stp (tVar 0 (some v :: l) H Q) (Q v H) := ⟨z_var0⟩
instance i_z_nm0 {y : Option V} {v : V} {l : L2.St} {Q : L2.St → Hp → Prop} : Stp (gName 0 v (y :: l) H Q) (Q (some v :: l) H) := ⟨z_nm0⟩
instance i_z_var1 {x0 : Option V} {v : V} {l : L2.St} : Stp (tVar 1 (x0 :: some v :: l) H Q) (Q v H) := ⟨z_var1⟩
instance i_z_nm1 {x0 : Option V} {y : Option V} {v : V} {l : L2.St} {Q : L2.St → Hp → Prop} : Stp (gName 1 v (x0 :: y :: l) H Q) (Q (x0 :: some v :: l) H) := ⟨z_nm1⟩
instance i_z_var2 {x0 x1 : Option V} {v : V} {l : L2.St} : Stp (tVar 2 (x0 :: x1 :: some v :: l) H Q) (Q v H) := ⟨z_var2⟩
instance i_z_nm2 {x0 x1 : Option V} {y : Option V} {v : V} {l : L2.St} {Q : L2.St → Hp → Prop} : Stp (gName 2 v (x0 :: x1 :: y :: l) H Q) (Q (x0 :: x1 :: some v :: l) H) := ⟨z_nm2⟩
instance i_z_var3 {x0 x1 x2 : Option V} {v : V} {l : L2.St} : Stp (tVar 3 (x0 :: x1 :: x2 :: some v :: l) H Q) (Q v H) := ⟨z_var3⟩
instance i_z_nm3 {x0 x1 x2 : Option V} {y : Option V} {v : V} {l : L2.St} {Q : L2.St → Hp → Prop} : Stp (gName 3 v (x0 :: x1 :: x2 :: y :: l) H Q) (Q (x0 :: x1 :: x2 :: some v :: l) H) := ⟨z_nm3⟩
instance i_z_var4 {x0 x1 x2 x3 : Option V} {v : V} {l : L2.St} : Stp (tVar 4 (x0 :: x1 :: x2 :: x3 :: some v :: l) H Q) (Q v H) := ⟨z_var4⟩
instance i_z_nm4 {x0 x1 x2 x3 : Option V} {y : Option V} {v : V} {l : L2.St} {Q : L2.St → Hp → Prop} : Stp (gName 4 v (x0 :: x1 :: x2 :: x3 :: y :: l) H Q) (Q (x0 :: x1 :: x2 :: x3 :: some v :: l) H) := ⟨z_nm4⟩
instance i_z_var5 {x0 x1 x2 x3 x4 : Option V} {v : V} {l : L2.St} : Stp (tVar 5 (x0 :: x1 :: x2 :: x3 :: x4 :: some v :: l) H Q) (Q v H) := ⟨z_var5⟩
instance i_z_nm5 {x0 x1 x2 x3 x4 : Option V} {y : Option V} {v : V} {l : L2.St} {Q : L2.St → Hp → Prop} : Stp (gName 5 v (x0 :: x1 :: x2 :: x3 :: x4 :: y :: l) H Q) (Q (x0 :: x1 :: x2 :: x3 :: x4 :: some v :: l) H) := ⟨z_nm5⟩
instance i_z_var6 {x0 x1 x2 x3 x4 x5 : Option V} {v : V} {l : L2.St} : Stp (tVar 6 (x0 :: x1 :: x2 :: x3 :: x4 :: x5 :: some v :: l) H Q) (Q v H) := ⟨z_var6⟩
instance i_z_nm6 {x0 x1 x2 x3 x4 x5 : Option V} {y : Option V} {v : V} {l : L2.St} {Q : L2.St → Hp → Prop} : Stp (gName 6 v (x0 :: x1 :: x2 :: x3 :: x4 :: x5 :: y :: l) H Q) (Q (x0 :: x1 :: x2 :: x3 :: x4 :: x5 :: some v :: l) H) := ⟨z_nm6⟩
instance i_z_var7 {x0 x1 x2 x3 x4 x5 x6 : Option V} {v : V} {l : L2.St} : Stp (tVar 7 (x0 :: x1 :: x2 :: x3 :: x4 :: x5 :: x6 :: some v :: l) H Q) (Q v H) := ⟨z_var7⟩
instance i_z_nm7 {x0 x1 x2 x3 x4 x5 x6 : Option V} {y : Option V} {v : V} {l : L2.St} {Q : L2.St → Hp → Prop} : Stp (gName 7 v (x0 :: x1 :: x2 :: x3 :: x4 :: x5 :: x6 :: y :: l) H Q) (Q (x0 :: x1 :: x2 :: x3 :: x4 :: x5 :: x6 :: some v :: l) H) := ⟨z_nm7⟩
instance i_z_var8 {x0 x1 x2 x3 x4 x5 x6 x7 : Option V} {v : V} {l : L2.St} : Stp (tVar 8 (x0 :: x1 :: x2 :: x3 :: x4 :: x5 :: x6 :: x7 :: some v :: l) H Q) (Q v H) := ⟨z_var8⟩
instance i_z_nm8 {x0 x1 x2 x3 x4 x5 x6 x7 : Option V} {y : Option V} {v : V} {l : L2.St} {Q : L2.St → Hp → Prop} : Stp (gName 8 v (x0 :: x1 :: x2 :: x3 :: x4 :: x5 :: x6 :: x7 :: y :: l) H Q) (Q (x0 :: x1 :: x2 :: x3 :: x4 :: x5 :: x6 :: x7 :: some v :: l) H) := ⟨z_nm8⟩
instance i_z_var9 {x0 x1 x2 x3 x4 x5 x6 x7 x8 : Option V} {v : V} {l : L2.St} : Stp (tVar 9 (x0 :: x1 :: x2 :: x3 :: x4 :: x5 :: x6 :: x7 :: x8 :: some v :: l) H Q) (Q v H) := ⟨z_var9⟩
instance i_z_nm9 {x0 x1 x2 x3 x4 x5 x6 x7 x8 : Option V} {y : Option V} {v : V} {l : L2.St} {Q : L2.St → Hp → Prop} : Stp (gName 9 v (x0 :: x1 :: x2 :: x3 :: x4 :: x5 :: x6 :: x7 :: x8 :: y :: l) H Q) (Q (x0 :: x1 :: x2 :: x3 :: x4 :: x5 :: x6 :: x7 :: x8 :: some v :: l) H) := ⟨z_nm9⟩
instance i_z_var10 {x0 x1 x2 x3 x4 x5 x6 x7 x8 x9 : Option V} {v : V} {l : L2.St} : Stp (tVar 10 (x0 :: x1 :: x2 :: x3 :: x4 :: x5 :: x6 :: x7 :: x8 :: x9 :: some v :: l) H Q) (Q v H) := ⟨z_var10⟩
instance i_z_nm10 {x0 x1 x2 x3 x4 x5 x6 x7 x8 x9 : Option V} {y : Option V} {v : V} {l : L2.St} {Q : L2.St → Hp → Prop} : Stp (gName 10 v (x0 :: x1 :: x2 :: x3 :: x4 :: x5 :: x6 :: x7 :: x8 :: x9 :: y :: l) H Q) (Q (x0 :: x1 :: x2 :: x3 :: x4 :: x5 :: x6 :: x7 :: x8 :: x9 :: some v :: l) H) := ⟨z_nm10⟩
instance i_z_var11 {x0 x1 x2 x3 x4 x5 x6 x7 x8 x9 x10 : Option V} {v : V} {l : L2.St} : Stp (tVar 11 (x0 :: x1 :: x2 :: x3 :: x4 :: x5 :: x6 :: x7 :: x8 :: x9 :: x10 :: some v :: l) H Q) (Q v H) := ⟨z_var11⟩
instance i_z_nm11 {x0 x1 x2 x3 x4 x5 x6 x7 x8 x9 x10 : Option V} {y : Option V} {v : V} {l : L2.St} {Q : L2.St → Hp → Prop} : Stp (gName 11 v (x0 :: x1 :: x2 :: x3 :: x4 :: x5 :: x6 :: x7 :: x8 :: x9 :: x10 :: y :: l) H Q) (Q (x0 :: x1 :: x2 :: x3 :: x4 :: x5 :: x6 :: x7 :: x8 :: x9 :: x10 :: some v :: l) H) := ⟨z_nm11⟩
instance i_z_var12 {x0 x1 x2 x3 x4 x5 x6 x7 x8 x9 x10 x11 : Option V} {v : V} {l : L2.St} : Stp (tVar 12 (x0 :: x1 :: x2 :: x3 :: x4 :: x5 :: x6 :: x7 :: x8 :: x9 :: x10 :: x11 :: some v :: l) H Q) (Q v H) := ⟨z_var12⟩
instance i_z_nm12 {x0 x1 x2 x3 x4 x5 x6 x7 x8 x9 x10 x11 : Option V} {y : Option V} {v : V} {l : L2.St} {Q : L2.St → Hp → Prop} : Stp (gName 12 v (x0 :: x1 :: x2 :: x3 :: x4 :: x5 :: x6 :: x7 :: x8 :: x9 :: x10 :: x11 :: y :: l) H Q) (Q (x0 :: x1 :: x2 :: x3 :: x4 :: x5 :: x6 :: x7 :: x8 :: x9 :: x10 :: x11 :: some v :: l) H) := ⟨z_nm12⟩
instance i_z_var13 {x0 x1 x2 x3 x4 x5 x6 x7 x8 x9 x10 x11 x12 : Option V} {v : V} {l : L2.St} : Stp (tVar 13 (x0 :: x1 :: x2 :: x3 :: x4 :: x5 :: x6 :: x7 :: x8 :: x9 :: x10 :: x11 :: x12 :: some v :: l) H Q) (Q v H) := ⟨z_var13⟩
instance i_z_nm13 {x0 x1 x2 x3 x4 x5 x6 x7 x8 x9 x10 x11 x12 : Option V} {y : Option V} {v : V} {l : L2.St} {Q : L2.St → Hp → Prop} : Stp (gName 13 v (x0 :: x1 :: x2 :: x3 :: x4 :: x5 :: x6 :: x7 :: x8 :: x9 :: x10 :: x11 :: x12 :: y :: l) H Q) (Q (x0 :: x1 :: x2 :: x3 :: x4 :: x5 :: x6 :: x7 :: x8 :: x9 :: x10 :: x11 :: x12 :: some v :: l) H) := ⟨z_nm13⟩
instance i_z_var14 {x0 x1 x2 x3 x4 x5 x6 x7 x8 x9 x10 x11 x12 x13 : Option V} {v : V} {l : L2.St} : Stp (tVar 14 (x0 :: x1 :: x2 :: x3 :: x4 :: x5 :: x6 :: x7 :: x8 :: x9 :: x10 :: x11 :: x12 :: x13 :: some v :: l) H Q) (Q v H) := ⟨z_var14⟩
instance i_z_nm14 {x0 x1 x2 x3 x4 x5 x6 x7 x8 x9 x10 x11 x12 x13 : Option V} {y : Option V} {v : V} {l : L2.St} {Q : L2.St → Hp → Prop} : Stp (gName 14 v (x0 :: x1 :: x2 :: x3 :: x4 :: x5 :: x6 :: x7 :: x8 :: x9 :: x10 :: x11 :: x12 :: x13 :: y :: l) H Q) (Q (x0 :: x1 :: x2 :: x3 :: x4 :: x5 :: x6 :: x7 :: x8 :: x9 :: x10 :: x11 :: x12 :: x13 :: some v :: l) H) := ⟨z_nm14⟩
instance i_z_var15 {x0 x1 x2 x3 x4 x5 x6 x7 x8 x9 x10 x11 x12 x13 x14 : Option V} {v : V} {l : L2.St} : Stp (tVar 15 (x0 :: x1 :: x2 :: x3 :: x4 :: x5 :: x6 :: x7 :: x8 :: x9 :: x10 :: x11 :: x12 :: x13 :: x14 :: some v :: l) H Q) (Q v H) := ⟨z_var15⟩
instance i_z_nm15 {x0 x1 x2 x3 x4 x5 x6 x7 x8 x9 x10 x11 x12 x13 x14 : Option V} {y : Option V} {v : V} {l : L2.St} {Q : L2.St → Hp → Prop} : Stp (gName 15 v (x0 :: x1 :: x2 :: x3 :: x4 :: x5 :: x6 :: x7 :: x8 :: x9 :: x10 :: x11 :: x12 :: x13 :: x14 :: y :: l) H Q) (Q (x0 :: x1 :: x2 :: x3 :: x4 :: x5 :: x6 :: x7 :: x8 :: x9 :: x10 :: x11 :: x12 :: x13 :: x14 :: some v :: l) H) := ⟨z_nm15⟩
instance i_z_var16 {x0 x1 x2 x3 x4 x5 x6 x7 x8 x9 x10 x11 x12 x13 x14 x15 : Option V} {v : V} {l : L2.St} : Stp (tVar 16 (x0 :: x1 :: x2 :: x3 :: x4 :: x5 :: x6 :: x7 :: x8 :: x9 :: x10 :: x11 :: x12 :: x13 :: x14 :: x15 :: some v :: l) H Q) (Q v H) := ⟨z_var16⟩
instance i_z_nm16 {x0 x1 x2 x3 x4 x5 x6 x7 x8 x9 x10 x11 x12 x13 x14 x15 : Option V} {y : Option V} {v : V} {l : L2.St} {Q : L2.St → Hp → Prop} : Stp (gName 16 v (x0 :: x1 :: x2 :: x3 :: x4 :: x5 :: x6 :: x7 :: x8 :: x9 :: x10 :: x11 :: x12 :: x13 :: x14 :: x15 :: y :: l) H Q) (Q (x0 :: x1 :: x2 :: x3 :: x4 :: x5 :: x6 :: x7 :: x8 :: x9 :: x10 :: x11 :: x12 :: x13 :: x14 :: x15 :: some v :: l) H) := ⟨z_nm16⟩
instance i_z_var17 {x0 x1 x2 x3 x4 x5 x6 x7 x8 x9 x10 x11 x12 x13 x14 x15 x16 : Option V} {v : V} {l : L2.St} : Stp (tVar 17 (x0 :: x1 :: x2 :: x3 :: x4 :: x5 :: x6 :: x7 :: x8 :: x9 :: x10 :: x11 :: x12 :: x13 :: x14 :: x15 :: x16 :: some v :: l) H Q) (Q v H) := ⟨z_var17⟩
instance i_z_nm17 {x0 x1 x2 x3 x4 x5 x6 x7 x8 x9 x10 x11 x12 x13 x14 x15 x16 : Option V} {y : Option V} {v : V} {l : L2.St} {Q : L2.St → Hp → Prop} : Stp (gName 17 v (x0 :: x1 :: x2 :: x3 :: x4 :: x5 :: x6 :: x7 :: x8 :: x9 :: x10 :: x11 :: x12 :: x13 :: x14 :: x15 :: x16 :: y :: l) H Q) (Q (x0 :: x1 :: x2 :: x3 :: x4 :: x5 :: x6 :: x7 :: x8 :: x9 :: x10 :: x11 :: x12 :: x13 :: x14 :: x15 :: x16 :: some v :: l) H) := ⟨z_nm17⟩
instance i_z_var18 {x0 x1 x2 x3 x4 x5 x6 x7 x8 x9 x10 x11 x12 x13 x14 x15 x16 x17 : Option V} {v : V} {l : L2.St} : Stp (tVar 18 (x0 :: x1 :: x2 :: x3 :: x4 :: x5 :: x6 :: x7 :: x8 :: x9 :: x10 :: x11 :: x12 :: x13 :: x14 :: x15 :: x16 :: x17 :: some v :: l) H Q) (Q v H) := ⟨z_var18⟩
instance i_z_nm18 {x0 x1 x2 x3 x4 x5 x6 x7 x8 x9 x10 x11 x12 x13 x14 x15 x16 x17 : Option V} {y : Option V} {v : V} {l : L2.St} {Q : L2.St → Hp → Prop} : Stp (gName 18 v (x0 :: x1 :: x2 :: x3 :: x4 :: x5 :: x6 :: x7 :: x8 :: x9 :: x10 :: x11 :: x12 :: x13 :: x14 :: x15 :: x16 :: x17 :: y :: l) H Q) (Q (x0 :: x1 :: x2 :: x3 :: x4 :: x5 :: x6 :: x7 :: x8 :: x9 :: x10 :: x11 :: x12 :: x13 :: x14 :: x15 :: x16 :: x17 :: some v :: l) H) := ⟨z_nm18⟩
instance i_z_var19 {x0 x1 x2 x3 x4 x5 x6 x7 x8 x9 x10 x11 x12 x13 x14 x15 x16 x17 x18 : Option V} {v : V} {l : L2.St} : Stp (tVar 19 (x0 :: x1 :: x2 :: x3 :: x4 :: x5 :: x6 :: x7 :: x8 :: x9 :: x10 :: x11 :: x12 :: x13 :: x14 :: x15 :: x16 :: x17 :: x18 :: some v :: l) H Q) (Q v H) := ⟨z_var19⟩
instance i_z_nm19 {x0 x1 x2 x3 x4 x5 x6 x7 x8 x9 x10 x11 x12 x13 x14 x15 x16 x17 x18 : Option V} {y : Option V} {v : V} {l : L2.St} {Q : L2.St → Hp → Prop} : Stp (gName 19 v (x0 :: x1 :: x2 :: x3 :: x4 :: x5 :: x6 :: x7 :: x8 :: x9 :: x10 :: x11 :: x12 :: x13 :: x14 :: x15 :: x16 :: x17 :: x18 :: y :: l) H Q) (Q (x0 :: x1 :: x2 :: x3 :: x4 :: x5 :: x6 :: x7 :: x8 :: x9 :: x10 :: x11 :: x12 :: x13 :: x14 :: x15 :: x16 :: x17 :: x18 :: some v :: l) H) := ⟨z_nm19⟩
instance i_z_var20 {x0 x1 x2 x3 x4 x5 x6 x7 x8 x9 x10 x11 x12 x13 x14 x15 x16 x17 x18 x19 : Option V} {v : V} {l : L2.St} : Stp (tVar 20 (x0 :: x1 :: x2 :: x3 :: x4 :: x5 :: x6 :: x7 :: x8 :: x9 :: x10 :: x11 :: x12 :: x13 :: x14 :: x15 :: x16 :: x17 :: x18 :: x19 :: some v :: l) H Q) (Q v H) := ⟨z_var20⟩
instance i_z_nm20 {x0 x1 x2 x3 x4 x5 x6 x7 x8 x9 x10 x11 x12 x13 x14 x15 x16 x17 x18 x19 : Option V} {y : Option V} {v : V} {l : L2.St} {Q : L2.St → Hp → Prop} : Stp (gName 20 v (x0 :: x1 :: x2 :: x3 :: x4 :: x5 :: x6 :: x7 :: x8 :: x9 :: x10 :: x11 :: x12 :: x13 :: x14 :: x15 :: x16 :: x17 :: x18 :: x19 :: y :: l) H Q) (Q (x0 :: x1 :: x2 :: x3 :: x4 :: x5 :: x6 :: x7 :: x8 :: x9 :: x10 :: x11 :: x12 :: x13 :: x14 :: x15 :: x16 :: x17 :: x18 :: x19 :: some v :: l) H) := ⟨z_nm20⟩
instance i_z_var21 {x0 x1 x2 x3 x4 x5 x6 x7 x8 x9 x10 x11 x12 x13 x14 x15 x16 x17 x18 x19 x20 : Option V} {v : V} {l : L2.St} : Stp (tVar 21 (x0 :: x1 :: x2 :: x3 :: x4 :: x5 :: x6 :: x7 :: x8 :: x9 :: x10 :: x11 :: x12 :: x13 :: x14 :: x15 :: x16 :: x17 :: x18 :: x19 :: x20 :: some v :: l) H Q) (Q v H) := ⟨z_var21⟩
instance i_z_nm21 {x0 x1 x2 x3 x4 x5 x6 x7 x8 x9 x10 x11 x12 x13 x14 x15 x16 x17 x18 x19 x20 : Option V} {y : Option V} {v : V} {l : L2.St} {Q : L2.St → Hp → Prop} : Stp (gName 21 v (x0 :: x1 :: x2 :: x3 :: x4 :: x5 :: x6 :: x7 :: x8 :: x9 :: x10 :: x11 :: x12 :: x13 :: x14 :: x15 :: x16 :: x17 :: x18 :: x19 :: x20 :: y :: l) H Q) (Q (x0 :: x1 :: x2 :: x3 :: x4 :: x5 :: x6 :: x7 :: x8 :: x9 :: x10 :: x11 :: x12 :: x13 :: x14 :: x15 :: x16 :: x17 :: x18 :: x19 :: x20 :: some v :: l) H) := ⟨z_nm21⟩
instance i_z_var22 {x0 x1 x2 x3 x4 x5 x6 x7 x8 x9 x10 x11 x12 x13 x14 x15 x16 x17 x18 x19 x20 x21 : Option V} {v : V} {l : L2.St} : Stp (tVar 22 (x0 :: x1 :: x2 :: x3 :: x4 :: x5 :: x6 :: x7 :: x8 :: x9 :: x10 :: x11 :: x12 :: x13 :: x14 :: x15 :: x16 :: x17 :: x18 :: x19 :: x20 :: x21 :: some v :: l) H Q) (Q v H) := ⟨z_var22⟩
instance i_z_nm22 {x0 x1 x2 x3 x4 x5 x6 x7 x8 x9 x10 x11 x12 x13 x14 x15 x16 x17 x18 x19 x20 x21 : Option V} {y : Option V} {v : V} {l : L2.St} {Q : L2.St → Hp → Prop} : Stp (gName 22 v (x0 :: x1 :: x2 :: x3 :: x4 :: x5 :: x6 :: x7 :: x8 :: x9 :: x10 :: x11 :: x12 :: x13 :: x14 :: x15 :: x16 :: x17 :: x18 :: x19 :: x20 :: x21 :: y :: l) H Q) (Q (x0 :: x1 :: x2 :: x3 :: x4 :: x5 :: x6 :: x7 :: x8 :: x9 :: x10 :: x11 :: x12 :: x13 :: x14 :: x15 :: x16 :: x17 :: x18 :: x19 :: x20 :: x21 :: some v :: l) H) := ⟨z_nm22⟩
instance i_z_var23 {x0 x1 x2 x3 x4 x5 x6 x7 x8 x9 x10 x11 x12 x13 x14 x15 x16 x17 x18 x19 x20 x21 x22 : Option V} {v : V} {l : L2.St} : Stp (tVar 23 (x0 :: x1 :: x2 :: x3 :: x4 :: x5 :: x6 :: x7 :: x8 :: x9 :: x10 :: x11 :: x12 :: x13 :: x14 :: x15 :: x16 :: x17 :: x18 :: x19 :: x20 :: x21 :: x22 :: some v :: l) H Q) (Q v H) := ⟨z_var23⟩
instance i_z_nm23 {x0 x1 x2 x3 x4 x5 x6 x7 x8 x9 x10 x11 x12 x13 x14 x15 x16 x17 x18 x19 x20 x21 x22 : Option V} {y : Option V} {v : V} {l : L2.St} {Q : L2.St → Hp → Prop} : Stp (gName 23 v (x0 :: x1 :: x2 :: x3 :: x4 :: x5 :: x6 :: x7 :: x8 :: x9 :: x10 :: x11 :: x12 :: x13 :: x14 :: x15 :: x16 :: x17 :: x18 :: x19 :: x20 :: x21 :: x22 :: y :: l) H Q) (Q (x0 :: x1 :: x2 :: x3 :: x4 :: x5 :: x6 :: x7 :: x8 :: x9 :: x10 :: x11 :: x12 :: x13 :: x14 :: x15 :: x16 :: x17 :: x18 :: x19 :: x20 :: x21 :: x22 :: some v :: l) H) := ⟨z_nm23⟩
end
end LX
/-! loops and comprehensions, with their new list and a locked dict looked after -/
namespace LX
open PySem PySem.Spec PyProof.Rows L2
theorem nin {a b : Addr} (h : a ≠ b) : a ∉ [b] := by simpa using h
theorem Fr.lock {H H' : Hp} {d : Addr} {u : HO} {od : Obj} (hd : H d = some u) (f : Fr [] (upd H d (.frz od u)) H') : Fr [] H (upd H' d u) := fun b o e _ => by
  by_cases hb : b = d
  · subst hb; rw [hd] at e; cases e; exact upd_same
  · rw [upd_ne hb]
    exact f.g0 (by rw [upd_ne hb]; exact e)
section
variable {K : PySem.W.Frag} {g : TG} {tt : TT} {te : TE} {vs : List Nat} {σ : L2.St} {H H1 : Hp} {R : Addr}
/-- the state of a comprehension's list R, new since H1: i turns are done -/
def LcI (H1 : Hp) (R : Addr) (Pv : Nat → List V → Hp → Prop) (i : Nat) (H' : Hp) : Prop := ∃ xs, xs.length ≤ i ∧ Pv i xs H' ∧ H' R = some (.lst xs) ∧ Fr [] H1 H'
/-- what is asked behind an element y -/
def LcY (H1 : Hp) (R : Addr) (Pv : Nat → List V → Hp → Prop) (i : Nat) (y : V) (H4 : Hp) : Prop := ∃ acc, H4 R = some (.lst acc) ∧ acc.length < sizeLine ∧ LcI H1 R Pv i (upd H4 R (.lst (acc ++ [y])))
theorem z_lcY {Pv : Nat → List V → Hp → Prop} {i : Nat} {y : V} {xs : List V} (hR : H1 R = none) (h1 : H R = some (.lst xs)) (f : Fr [] H1 H) (hl : xs.length ≤ i) (hs : i < sizeLine) (k : ∀ H5, Fr [R] H H5 → Fr [] H1 H5 → (∀ b, H b = none → H5 b = none) → Pv (i + 1) (xs ++ [y]) H5) : LcY H1 R Pv (i + 1) y H :=
  ⟨xs, h1, by omega, xs ++ [y], by rw [List.length_append]; show xs.length + 1 ≤ i + 1; omega, k _ (Fr.at (by simp)) (f.skip hR) (upd_free h1), upd_same, f.skip hR⟩
theorem z_lcN {Pv : Nat → List V → Hp → Prop} {i : Nat} {xs : List V} (h1 : H R = some (.lst xs)) (f : Fr [] H1 H) (hl : xs.length ≤ i) (k : Pv (i + 1) xs H) : LcI H1 R Pv (i + 1) H := ⟨xs, by omega, k, h1, f⟩
/-- a comprehension over a range -/
theorem z_lcR {lo : Int} {n : Nat} {Q : VK} (Pv : Nat → List V → Hp → Prop) (h0 : ∀ R H', H1 R = none → Fr [] H1 H' → Pv 0 [] H')
    (hs : ∀ R i xs H', H1 R = none → i < n → xs.length ≤ i → Pv i xs H' → H' R = some (.lst xs) → Fr [] H1 H' → g (.int (lo + i)) (wipe σ vs) H' fun σ2 H2 => wipe σ2 vs = wipe σ vs ∧ tt σ2 H2 fun b H3 =>
      if b = true then te σ2 H3 fun y H4 => LcY H1 R Pv (i + 1) y H4 else LcI H1 R Pv (i + 1) H3)
    (hd : ∀ R xs H', H1 R = none → Pv n xs H' → xs.length ≤ n → H' R = some (.lst xs) → Fr [] H1 H' → Q (.ref R) H') :
    oLc (Itr lo n) g tt te vs σ H1 Q := fun R hR =>
  lc_range (fun i H' => LcI H1 R Pv i H') ⟨[], Nat.le_refl _, h0 R _ hR (Fr.new hR), upd_same, Fr.new hR⟩ (fun i H' hi ⟨xs, hl, p, hx, f⟩ => hs R i xs H' hR hi hl p hx f) (fun H' ⟨xs, hl, p, hx, f⟩ => hd R xs H' hR p hl hx f)
/-- a comprehension over a list -/
theorem z_lcL {a : Addr} {src : List V} {Q : VK} (ha : H1 a = some (.lst src)) (Pv : Nat → List V → Hp → Prop) (h0 : ∀ R H', H1 R = none → Fr [] H1 H' → Pv 0 [] H')
    (hs : ∀ R i x xs H', H1 R = none → src[i]? = some x → i < src.length → xs.length ≤ i → Pv i xs H' → H' R = some (.lst xs) → Fr [] H1 H' → g x (wipe σ vs) H' fun σ2 H2 => wipe σ2 vs = wipe σ vs ∧ tt σ2 H2 fun b H3 =>
      if b = true then te σ2 H3 fun y H4 => LcY H1 R Pv (i + 1) y H4 else LcI H1 R Pv (i + 1) H3)
    (hd : ∀ R xs H', H1 R = none → Pv src.length xs H' → xs.length ≤ src.length → H' R = some (.lst xs) → Fr [] H1 H' → Q (.ref R) H') :
    oLc (Itl K a) g tt te vs σ H1 Q := fun R hR =>
  lc_list (xs := src) (fun i H' => LcI H1 R Pv i H') ⟨[], Nat.le_refl _, h0 R _ hR (Fr.new hR), upd_same, Fr.new hR⟩ (fun i H' _ ⟨xs, hl, p, hx, f⟩ => SqL.of (f.g0 ha))
    (fun i x H' hi ⟨xs, hl, p, hx, f⟩ => hs R i x xs H' hR hi (List.getElem?_eq_some_iff.mp hi).1 hl p hx f) (fun H' ⟨xs, hl, p, hx, f⟩ => hd R xs H' hR p hl hx f)
theorem Fr.seq {H H' : Hp} {a : Addr} {xs : List V} (f : Fr [] H H') (h : SqL K H a xs) : SqL K H' a xs := (show L2.Same H H' from fun b u e => f.g0 e).seq h
/-- over a list that may be the script -/
theorem z_lcQ {a : Addr} {src : List V} {Q : VK} (ha : SqL K H1 a src) (Pv : Nat → List V → Hp → Prop) (h0 : ∀ R H', H1 R = none → Fr [] H1 H' → Pv 0 [] H')
    (hs : ∀ R i x xs H', H1 R = none → src[i]? = some x → i < src.length → xs.length ≤ i → Pv i xs H' → H' R = some (.lst xs) → Fr [] H1 H' → g x (wipe σ vs) H' fun σ2 H2 => wipe σ2 vs = wipe σ vs ∧ tt σ2 H2 fun b H3 =>
      if b = true then te σ2 H3 fun y H4 => LcY H1 R Pv (i + 1) y H4 else LcI H1 R Pv (i + 1) H3)
    (hd : ∀ R xs H', H1 R = none → Pv src.length xs H' → xs.length ≤ src.length → H' R = some (.lst xs) → Fr [] H1 H' → Q (.ref R) H') :
    oLc (Itl K a) g tt te vs σ H1 Q := fun R hR =>
  lc_list (xs := src) (fun i H' => LcI H1 R Pv i H') ⟨[], Nat.le_refl _, h0 R _ hR (Fr.new hR), upd_same, Fr.new hR⟩ (fun i H' _ ⟨xs, hl, p, hx, f⟩ => f.seq ha)
    (fun i x H' hi ⟨xs, hl, p, hx, f⟩ => hs R i x xs H' hR hi (List.getElem?_eq_some_iff.mp hi).1 hl p hx f) (fun H' ⟨xs, hl, p, hx, f⟩ => hd R xs H' hR p hl hx f)
theorem z_iterQ {p : Addr} {xs : List V} {R : It → Hp → Prop} (h1 : SqL K H p xs) (h : R (Itl K p) H) : oIter K (.ref p) H R := ⟨p, rfl, ⟨xs, h1⟩, h⟩
/-- over a tuple -/
theorem z_lcT {a : Addr} {src : List V} {Q : VK} (ha : H1 a = some (.tup src)) (Pv : Nat → List V → Hp → Prop) (h0 : ∀ R H', H1 R = none → Fr [] H1 H' → Pv 0 [] H')
    (hs : ∀ R i x xs H', H1 R = none → src[i]? = some x → i < src.length → xs.length ≤ i → Pv i xs H' → H' R = some (.lst xs) → Fr [] H1 H' → g x (wipe σ vs) H' fun σ2 H2 => wipe σ2 vs = wipe σ vs ∧ tt σ2 H2 fun b H3 =>
      if b = true then te σ2 H3 fun y H4 => LcY H1 R Pv (i + 1) y H4 else LcI H1 R Pv (i + 1) H3)
    (hd : ∀ R xs H', H1 R = none → Pv src.length xs H' → xs.length ≤ src.length → H' R = some (.lst xs) → Fr [] H1 H' → Q (.ref R) H') :
    oLc (Itt K a) g tt te vs σ H1 Q := fun R hR =>
  lc_tup (xs := src) (fun i H' => LcI H1 R Pv i H') ⟨[], Nat.le_refl _, h0 R _ hR (Fr.new hR), upd_same, Fr.new hR⟩ (fun i H' _ ⟨xs, hl, p, hx, f⟩ => SqT.of (f.g0 ha))
    (fun i x H' hi ⟨xs, hl, p, hx, f⟩ => hs R i x xs H' hR hi (List.getElem?_eq_some_iff.mp hi).1 hl p hx f) (fun H' ⟨xs, hl, p, hx, f⟩ => hd R xs H' hR p hl hx f)
/-- a comprehension over a dict's keys; the dict is locked meanwhile (HF), and free again behind it -/
theorem z_lcK {td : TE} {d : Addr} {kvs : List (Key × V)} {Q : VK} (htd : ∀ H' (R : VK), R (.ref d) H' → td σ H' R) (hd : H d = some (.dK kvs)) (Pv : Nat → List V → Hp → Prop)
    (h0 : ∀ od HF R H', Fr [d] H HF → HF d = some (.frz od (.dK kvs)) → HF R = none → Fr [] HF H' → Pv 0 [] H')
    (hs : ∀ od HF R i k v xs H', Fr [d] H HF → HF d = some (.frz od (.dK kvs)) → HF R = none → kvs[i]? = some (k, v) → i < kvs.length → xs.length ≤ i → Pv i xs H' → H' R = some (.lst xs) → Fr [] HF H' → g (kV k) (wipe σ vs) H' fun σ2 H2 => wipe σ2 vs = wipe σ vs ∧ tt σ2 H2 fun b H3 =>
      if b = true then te σ2 H3 fun y H4 => LcY HF R Pv (i + 1) y H4 else LcI HF R Pv (i + 1) H3)
    (he : ∀ R xs H' H2, H R = none → Pv kvs.length xs H' → xs.length ≤ kvs.length → H2 R = some (.lst xs) → Fr [d] H' H2 → Fr [] H H2 → Q (.ref R) H2) :
    tLockE (tLc (iKeys td) g tt te vs) σ H Q := by
  refine ⟨d, .dK kvs, hd, trivial, fun od => ?_⟩
  refine htd _ _ ⟨d, od, rfl, Or.inl ⟨kvs, upd_same, fun R hR => ?_⟩⟩
  have hF : upd H d (.frz od (.dK kvs)) d = some (.frz od (.dK kvs)) := upd_same
  have fF : Fr [d] H (upd H d (.frz od (.dK kvs))) := Fr.at (by simp)
  have nR : R ≠ d := fun z => by rw [z, upd_same] at hR; cases hR
  have hR0 : H R = none := by rw [upd_ne nR] at hR; exact hR
  have lk : ∀ H', Fr [] (upd H d (.frz od (.dK kvs))) H' → Fr [] H (upd H' d (.dK kvs)) := fun H' f => Fr.lock hd f
  generalize upd H d (.frz od (.dK kvs)) = HF at hF fF hR lk
  refine ⟨fun i m H' => m = kvs.length - i ∧ i ≤ kvs.length ∧ LcI HF R Pv i H', ⟨kvs.length, by simp, Nat.zero_le _, [], Nat.le_refl _, h0 od HF R _ fF hF hR (Fr.new hR), upd_same, Fr.new hR⟩, ?_⟩
  rintro i m H' ⟨rfl, hi, xs, hl, p, hx, f⟩
  by_cases hlt : i < kvs.length
  · refine .inr ⟨⟨f.g0 hF, hlt⟩, fun H' => LcI HF R Pv (i + 1) H', fun H'' p' => ⟨kvs.length - (i + 1), by omega, rfl, hlt, p'⟩, fun x H'' y => ?_⟩
    obtain ⟨e, k, v, hk, ex⟩ := y
    subst e ex
    exact hs od HF R i k v xs _ fF hF hR hk hlt hl p hx f
  · have e : i = kvs.length := by omega
    subst e
    exact .inl ⟨⟨f.g0 hF, Nat.le_refl _⟩, f.g0 hF, he R xs H' _ hR0 p hl (by rw [upd_ne nR]; exact hx) (Fr.at (by simp)) (lk _ f)⟩
/-- a dict locked: HF is H with it locked -/
structure Lk (H : Hp) (d : Addr) (kvs : List (Key × V)) (od : Obj) (HF : Hp) : Prop where
  f : Fr [d] H HF
  at' : HF d = some (.frz od (.dK kvs))
  lk : ∀ F H', d ∉ F → Fr F HF H' → Fr F H (upd H' d (.dK kvs))
theorem Fr.lockF {F : List Addr} {H H' : Hp} {d : Addr} {u : HO} {od : Obj} (hd : H d = some u) (f : Fr F (upd H d (.frz od u)) H') : Fr F H (upd H' d u) := fun b o e n => by
  by_cases hb : b = d
  · subst hb; rw [hd] at e; cases e; exact upd_same
  · rw [upd_ne hb]
    exact f b o (by rw [upd_ne hb]; exact e) n
def FkN (HF : Hp) (F : List Addr) (Pv : Nat → L2.St → Hp → Prop) (i : Nat) (σ : L2.St) (H : Hp) : Prop := Pv i σ H ∧ Fr F HF H
def FkR (d : Addr) (kvs : List (Key × V)) (od : Obj) (R : Hp → Prop) (H : Hp) : Prop := H d = some (.frz od (.dK kvs)) ∧ R (upd H d (.dK kvs))
theorem z_fkR {H HF H3 : Hp} {F : List Addr} {d : Addr} {kvs : List (Key × V)} {od : Obj} {R : Hp → Prop} (L : Lk H d kvs od HF) (hF : d ∉ F) (f : Fr F HF H3) (k : ∀ H4, Fr [d] H3 H4 → Fr F H H4 → R H4) : FkR d kvs od R H3 := ⟨f.g L.at' hF, k _ (Fr.at (by simp)) (L.lk F _ hF f)⟩
theorem z_fkN {HF : Hp} {F : List Addr} {Pv : Nat → L2.St → Hp → Prop} {i : Nat} {σ : L2.St} {H : Hp} (f : Fr F HF H) (k : Pv i σ H) : FkN HF F Pv i σ H := ⟨k, f⟩
/-- a for over a dict's keys; the dict is locked meanwhile; the body may change what F names -/
theorem z_forK {D : Ends} {td : TE} {tb : TS} {d : Addr} {kvs : List (Key × V)} (F : List Addr) (hF : d ∉ F) (htd : ∀ H' (R : VK), R (.ref d) H' → td σ H' R) (hd : H d = some (.dK kvs)) (Pv : Nat → L2.St → Hp → Prop)
    (h0 : ∀ od HF, Lk H d kvs od HF → Pv 0 σ HF)
    (hs : ∀ od HF i k v σ' H', Lk H d kvs od HF → kvs[i]? = some (k, v) → i < kvs.length → Pv i σ' H' → Fr F HF H' → H' d = some (.frz od (.dK kvs)) → g (kV k) σ' H' fun σ2 H2 => tb ⟨FkN HF F Pv (i + 1), fun v H3 => FkR d kvs od (D.rt v) H3, fun σ3 H3 => FkR d kvs od (D.nx σ3) H3, FkN HF F Pv (i + 1)⟩ σ2 H2)
    (he : ∀ σ' H' H2, Pv kvs.length σ' H' → Fr [d] H' H2 → H2 d = some (.dK kvs) → Fr F H H2 → D.nx σ' H2) :
    tLock (tFor (iKeys td) g tb) D σ H := by
  refine ⟨d, .dK kvs, hd, trivial, fun od => ?_⟩
  refine htd _ _ ⟨d, od, rfl, Or.inl ⟨kvs, upd_same, ?_⟩⟩
  have L : Lk H d kvs od (upd H d (.frz od (.dK kvs))) := ⟨Fr.at (by simp), upd_same, fun F H' _ f => Fr.lockF hd f⟩
  generalize upd H d (.frz od (.dK kvs)) = HF at L
  refine ⟨fun i m σ' H' => m = kvs.length - i ∧ i ≤ kvs.length ∧ FkN HF F Pv i σ' H', ⟨kvs.length, by simp, Nat.zero_le _, h0 od HF L, Fr.rfl'⟩, ?_⟩
  rintro i m σ' H' ⟨rfl, hi, p, f⟩
  by_cases hlt : i < kvs.length
  · refine .inr ⟨⟨f.g L.at' hF, hlt⟩, FkN HF F Pv (i + 1), fun σ'' H'' p' => ⟨kvs.length - (i + 1), by omega, rfl, hlt, p'⟩, fun x H'' y => ?_⟩
    obtain ⟨e, k, v, hk, ex⟩ := y
    subst e ex
    exact hs od HF i k v σ' _ L hk hlt p f (f.g L.at' hF)
  · have e : i = kvs.length := by omega
    subst e
    exact .inl ⟨⟨f.g L.at' hF, Nat.le_refl _⟩, f.g L.at' hF, he σ' H' _ p (Fr.at (by simp)) upd_same (L.lk F _ hF f)⟩
end
end LX
/-! more rules: chains, tuples, sorted of tuples -/
namespace LX
open PySem PySem.Spec PyProof.Rows L2
section
variable {K : PySem.W.Frag} {σ : L2.St} {H : Hp} {D : Ends} {Q : VK}
theorem z_chain {r r' : R2} {ta tb tc : TE} (h : ta σ H fun x H1 => tb σ H1 fun y H2 => r x y H2 fun z H3 => oBl z H3 fun k H3 => if k = true then tc σ H3 fun u H4 => r' y u H4 Q else Q (.bl false) H3) : tChain r r' ta tb tc σ H Q := h
instance i_chain {r r' : R2} {ta tb tc : TE} : Stp (tChain r r' ta tb tc σ H Q) (ta σ H fun x H1 => tb σ H1 fun y H2 => r x y H2 fun z H3 => oBl z H3 fun k H3 => if k = true then tc σ H3 fun u H4 => r' y u H4 Q else Q (.bl false) H3) := ⟨z_chain⟩
theorem z_addT {a b : Addr} {xs ys : List V} (h1 : H a = some (.tup xs)) (h2 : H b = some (.tup ys)) (h3 : xs.length + ys.length ≤ sizeLine) (n1 : xs ≠ []) (n2 : ys ≠ []) (h : ∀ p H1, H p = none → Fr [] H H1 → H1 p = some (.tup (xs ++ ys)) → Q (.ref p) H1) : rAddU K (.ref a) (.ref b) H Q :=
  Or.inr ⟨a, b, xs, ys, rfl, rfl, SqT.of h1, SqT.of h2, h3, fun e => absurd e n1, fun _ e => absurd e n2, fun _ _ => z_new h⟩
def rTupU (K : PySem.W.Frag) : List V → Hp → VK → Prop := fun xs H Q => ∃ p ys, xs = [.ref p] ∧ ((SqL K H p ys ∧ ∀ l, H l = none → Q (.ref l) (upd H l (.tup ys))) ∨ (SqT K H p ys ∧ Q (.ref p) H))
theorem call_tupleU {X : Cx} : CallR X (.type "tuple") (rTupU X.K) := call_tuple_of
theorem z_tupL {p : Addr} {ys : List V} (h1 : H p = some (.lst ys)) (h : ∀ l H1, H l = none → Fr [] H H1 → H1 l = some (.tup ys) → Q (.ref l) H1) : rTupU K [.ref p] H Q := ⟨p, ys, rfl, Or.inl ⟨SqL.of h1, z_new h⟩⟩
theorem z_tupT {p : Addr} {ys : List V} (h1 : H p = some (.tup ys)) (h : Q (.ref p) H) : rTupU K [.ref p] H Q := ⟨p, ys, rfl, Or.inr ⟨SqT.of h1, h⟩⟩
/-- sorted of a list of tuples, as data -/
def rSortT (K : PySem.W.Frag) : List V → Hp → VK → Prop := fun vs H Q => ∃ (a : Addr) (bs : List (Addr × PyData)), vs = [.ref a] ∧ SqL K H a (bs.map fun b => V.ref b.1) ∧ (∀ b ∈ bs, Dp K H (.ref b.1) b.2) ∧ (∀ b ∈ bs, ∀ b' ∈ bs, PySem.W.alike b.2 b'.2 = true) ∧ (∀ b ∈ bs, ∃ x r, b.2 = .tuple (x :: r)) ∧ bs.length ≤ sizeLine ∧ (∀ b ∈ bs, b.2.depth ≤ 60) ∧
  ∀ p, H p = none → Q (.ref p) (upd H p (.lst ((bs.mergeSort (PySem.W.dataLe false (fun b : Addr × PyData => b.2))).map fun b => V.ref b.1)))
theorem each_refs : ∀ {bs : List (Addr × PyData)} {its : List Value}, Vals (bs.map fun b => V.ref b.1) its → PySem.W.EachIs (fun v (b : Addr × PyData) => v = .ref b.1) its bs
  | [], _, r => by cases r; exact .nil
  | b :: bs, _, r => by
    cases r with
    | cons h t => exact .cons h (each_refs t)
theorem refs_each : ∀ {bs : List (Addr × PyData)} {its : List Value}, PySem.W.EachIs (fun v (b : Addr × PyData) => v = .ref b.1) its bs → Vals (bs.map fun b => V.ref b.1) its
  | _, _, .nil => .nil
  | _, _, .cons h t => .cons h (refs_each t)
theorem call_sortedT {X : Cx} (hu : X.A.units + 64 < cLine) : CallR X (.builtin "sorted") (rSortT X.K) := by
  intro pins s σ H vs us Q I r h
  obtain ⟨a, bs, rfl, hs, hd, hal, htp, hl, hdep, q⟩ := h
  obtain ⟨its, rv, pl, _⟩ := I.list hs
  rw [Vals.ref1 r]
  have e1 := each_refs rv
  have er : PySem.W.EachIs (fun v (b : Addr × PyData) => ∃ as, Reads s.heap v b.2 as) its bs := PySem.W.EachIs.of_zip e1.length fun p hp => by
    have hm := (List.of_mem_zip hp).2
    have hv := e1.zip p hp
    exact Dp.reads I _ _ _ (hd _ hm) hv
  refine PySem.W.sorted_data (enc := fun b : Addr × PyData => b.2) (by simpa using pl.isList) e1 er (fun d h d' h' => ?_) (.inl fun d h => ?_) hl (fun b hb => by have := hdep b hb; omega) fun out ho eo => ?_
  · obtain ⟨b, hb, rfl⟩ := List.mem_map.mp h
    obtain ⟨b', hb', rfl⟩ := List.mem_map.mp h'
    exact hal b hb b' hb'
  · obtain ⟨b, hb, rfl⟩ := List.mem_map.mp h
    exact htp b hb
  obtain ⟨ep, he'⟩ := PyProof.Rows.sortedAll_at s.heap its out.toArray
  have hlen : ((bs.mergeSort (PySem.W.dataLe false (fun b : Addr × PyData => b.2))).map fun b => V.ref b.1).length ≤ sizeLine := by rw [List.length_map, List.length_mergeSort]; exact hl
  exact ⟨.ref _, upd H (s.heap.objs.size + 1) (.lst ((bs.mergeSort (PySem.W.dataLe false (fun b : Addr × PyData => b.2))).map fun b => V.ref b.1)), I.laid (t' := s.toks) (fun _ _ => PyProof.Rows.sortedAll_old) (Nat.le_succ _) ⟨hlen, out, ep, refs_each eo, he'⟩, rfl, q _ (I.hok.fresh (Nat.le_succ _))⟩
/-- .. already in order -/
theorem z_sortT {a : Addr} {bs : List (Addr × PyData)} (h1 : H a = some (.lst (bs.map fun b => V.ref b.1))) (h2 : ∀ b ∈ bs, Dp K H (.ref b.1) b.2) (h3 : ∀ b ∈ bs, ∀ b' ∈ bs, PySem.W.alike b.2 b'.2 = true) (h4 : ∀ b ∈ bs, ∃ x r, b.2 = .tuple (x :: r)) (h5 : bs.length ≤ sizeLine) (h6 : ∀ b ∈ bs, b.2.depth ≤ 60)
    (h7 : bs.Pairwise fun x y => PySem.W.dataLe false (fun b : Addr × PyData => b.2) x y = true) (h : ∀ p H1, H p = none → Fr [] H H1 → H1 p = some (.lst (bs.map fun b => V.ref b.1)) → Q (.ref p) H1) : rSortT K [.ref a] H Q :=
  ⟨a, bs, rfl, SqL.of h1, h2, h3, h4, h5, h6, by rw [List.mergeSort_of_pairwise h7]; exact fun p hp => h p _ hp (Fr.new hp) upd_same⟩
end
end LX
/-! sorted(d, key=lambda y: d[y]) of a dict of whole numbers by whole numbers, d a captured name -/
namespace LX
open PySem PySem.Spec PySem.W PyProof.Rows L2 NdefX LamX
section
variable {P : Program} {w : World} {A : Around} {s : Shared}
/-- the lambda's call: the captured dict's value -/
theorem look_call {κ : Type} [DecidableEq κ] {knd : PySem.KeyKind P w κ} {f c' cc d : Addr} {qual x y : Str} {params : Arguments} {scope : Scope} {cl : List (Str × Addr)} {pm ctv v : Value} {px py pos : Pos} {fm : κ → Option Value} {k : κ} {i : Int} {t : Tok}
    (hroom : A.depth < recursionLimit) (ho : s.heap.get? f = some (PySem.W.kla_obj "<lambda>" qual params (.Subscript (.Name x px) (.Name y py) pos) scope cl pm c' ctv)) (hc : s.heap.CodeRec (.ref c') qual)
    (hk : scope.kind = .function) (hco : scope.isCoroutine = false) (hge : scope.isGenerator = false) (nocell : ∀ z ∈ scope.names, z.2 ≠ .cell) (hy : scope.names.lookup y = some .local) (hx : scope.names.lookup x = some .free)
    (hcx : cl.lookup x = some cc) (hcell : s.heap.IsCell cc (some (.ref d))) (hm : s.heap.MapOf knd d fm) (hkey : knd.is k v = true) (hval : fm k = some (.int i t)) (lim : s.heap.NoLimit)
    (hbind : ∀ (pm cv ctv : Value), bindArgs (PySem.W.kla_fn "<lambda>" qual params (.Subscript (.Name x px) (.Name y py) pos) scope cl pm cv ctv) ⟨[v], []⟩ = pure [(y, v)])
    (dx : (x == ("__debug__" : Str)) = false) (dy : (y == ("__debug__" : Str)) = false) (cdx : (x == ("__classdict__" : Str)) = false) :
    wpAny (model P w) A (call (.ref f) [v]) (KeyPure (.int i) s) (fun _ _ => False) s := by
  have rc : codeAny (model P w) A (.call (.ref f) ⟨[v], []⟩) (fun r s' => ∃ u, r = .ok (.ret u) ∧ KeyPure (.int i) s u s') s := by
    refine PySem.W.kla_callFunE hroom ho rfl hco hge rfl hc ?_
    rw [hbind]
    refine wpAny_pure (wpAny_newFunctionEnv nocell (fun z hz => ?_) (fun h₁ hns hsb => ⟨lim.fresh _ hsb, ?_⟩) hk)
    · have e : z = (y, v) := by simpa using hz
      rw [e]; exact hy
    show codeAny _ _ (.expr (.Subscript (.Name x px) (.Name y py) pos) (PySem.W.envX qual scope s.heap.objs.size f (.ref c') cl)) _ _
    have kp : ∀ b o, s.heap.get? b = some o → h₁.get? b = some o := fun b o e => hsb.extBut b o (Nat.ne_of_lt (Heap.lt_size e)) (Heap.get?_push_of_some _ e)
    have hcell' : h₁.IsCell cc (some (.ref d)) := by
      obtain ⟨o, h1, h2⟩ := hcell
      exact ⟨o, kp _ _ h1, h2⟩
    have hm' : h₁.MapOf knd d fm := by
      obtain ⟨o, es, ep, h1, h2⟩ := hm
      exact ⟨o, es, ep, kp _ _ h1, h2⟩
    refine PySem.W.kla_codeExpr ?_
    refine subD_of PySem.F.slot_dict_getitem.lookup (fun _ _ => rfl) ?_
    refine wpAny_Name (wpAny_loadName_free hk hx hcx hcell' ?_ cdx) dx
    refine wpAny_Name (wpAny_loadName_local hk hy hns (zip_look (ps := [y]) (us := [v]) (i := 0) (by simp) rfl rfl) ?_) dy
    refine ⟨hm'.typeIs, ?_⟩
    refine wpAny_getItem_of hkey hm' hval ?_
    exact ⟨_, rfl, _, _, rfl, kp, .int i t⟩
  refine wpAny_call (codeAny_mono rc fun r s' hq => ?_)
  obtain ⟨u, rfl, hq⟩ := hq
  exact hq
end
/-- a dict of whole numbers by whole numbers -/
def pD (ps : List (Int × Int)) : List (Key × V) := ps.map fun p => (.inl p.1, .int p.2)
theorem pD_val {ps : List (Int × Int)} {n i : Int} (nd : (ps.map (·.1)).Nodup) (h : (n, i) ∈ ps) : valV (pD ps) (.inl n) = some (.int i) := by
  induction ps with
  | nil => simp at h
  | cons p r ih =>
    obtain ⟨h1, h2⟩ := List.nodup_cons.mp nd
    unfold pD at ih ⊢
    rw [List.map_cons]
    rcases List.mem_cons.mp h with e | e
    · subst e
      exact valV_pos (p := (Sum.inl n, V.int i)) rfl
    · rw [valV_neg (p := (Sum.inl p.1, V.int p.2)) (fun z => h1 (by show p.1 ∈ _; rw [show p.1 = n from Sum.inl.inj z]; exact List.mem_map.mpr ⟨_, e, rfl⟩))]
      exact ih h2 e
theorem each_of {us : List Value} {ps : List (Int × Int)} (hl : us.length = ps.length) (h : ∀ (j : Nat) (v : Value) (p : Int × Int), us[j]? = some v → ps[j]? = some p → ∃ t, v = Value.int p.1 t) :
    PySem.W.EachIs (fun (v : Value) (p : Int × Int) => ∃ t, v = Value.int p.1 t) us ps := by
  induction us generalizing ps with
  | nil => cases ps with
    | nil => exact .nil
    | cons => simp at hl
  | cons u r ih => cases ps with
    | nil => simp at hl
    | cons p t => exact .cons (h 0 u p rfl rfl) (ih (by simpa using hl) fun j v q h1 h2 => h (j + 1) v q h1 h2)
theorem each_vals {us : List Value} {ps : List (Int × Int)} (h : PySem.W.EachIs (fun (v : Value) (p : Int × Int) => ∃ t, v = Value.int p.1 t) us ps) : Vals ((ps.map (·.1)).map V.int) us := by
  induction h with
  | nil => exact .nil
  | cons h _ ih => exact .cons h ih
section
variable {X : Cx}
theorem sort_dict_by {pins : List (Addr × Obj)} {σ : L2.St} {H : Hp} {s : Shared} {a fq : Addr} {ps : List (Int × Int)} {Q : VK} (hcalm : X.calm = true) (hu : X.A.units + 64 < cLine) (I : Inv X pins σ H s) (hd : H a = some (.dK (pD ps)))
    (turn : ∀ (v : Value) (p : Int × Int) (t : Tok), v = .int p.1 t → p ∈ ps → ∀ (h : Heap) (tk : Nat), (∀ b o, s.heap.get? b = some o → h.get? b = some o) →
      wpAny (model X.prog X.w) X.A.in1.in1 (call (.ref fq) [v]) (KeyPure (.int p.2) { s with heap := h, toks := tk }) (fun _ _ => False) { s with heap := h, toks := tk })
    (q : ∀ (ys : List (Int × Int)) (p : Addr), ys.Perm ps → ys.Pairwise (fun x y => x.2 ≤ y.2) → H p = none → Q (.ref p) (upd H p (.lst ((ys.map (·.1)).map V.int)))) :
    wpAny (model X.prog X.w) X.A (call (.builtin "sorted") [.ref a] [(Str.ofString "key", .ref fq)]) (EP X pins σ Q) X.xe s := by
  obtain ⟨z, lo, vs, rel, dd⟩ := dk_rd I.hok (Rd.of hd)
  obtain ⟨ep, hat⟩ := dd.dictAt
  have hkl : ps.length ≤ sizeLine := by
    unfold pD at z
    rw [List.length_map] at z
    exact z
  have hkeys : vs.map (·.1) = ps.map fun p => Sum.inl p.1 := by
    rw [← rel.keys]
    unfold pD
    rw [List.map_map]; rfl
  have hl : vs.length = ps.length := by
    have e := congrArg List.length hkeys
    rw [List.length_map, List.length_map] at e
    exact e
  have h16 : vs.length ≤ sizeLine := by rw [hl]; exact hkl
  refine call_function_entry_kw PyProof.Rows.kind_sorted PyProof.Rows.plain_sorted PyProof.Rows.entry_sorted (PyProof.Rows.ksk_s1 _ _) ?_
  unfold Builtin.«sorted»
  refine wpAny_bind (m := checkCount "sorted" 1 1 _) (wpAny_pure ?_)
  refine wpAny_bind (PySem.W.kdu_collect (A := X.A.in1) (PySem.W.kdl_dict (knd := mixKind X.prog X.w) (kvs := vs) (ep := ep) lo) (I.ok.hd hcalm) hat h16 fun h' tk acc hk hacc => ?_)
  have hal : acc.toList.length = ps.length := by rw [Array.length_toList, hacc.1, hl]
  have hE : PySem.W.EachIs (fun (v : Value) (p : Int × Int) => ∃ t, v = Value.int p.1 t) acc.toList ps := each_of hal fun j v p e ep' => by
    obtain ⟨k, x, e1, e2⟩ := hacc.2 j v (by rw [← Array.getElem?_toList]; exact e)
    have e3 : (vs.map (·.1))[j]? = some k := by rw [List.getElem?_map, e1]; rfl
    rw [hkeys, List.getElem?_map, ep'] at e3
    have e5 : Sum.inl p.1 = k := Option.some.inj e3
    subst e5
    rcases keyIs_shape (show keyIs (Sum.inl p.1) v = true from e2) with ⟨i, t, ek, ev⟩ | ⟨z, t, ek, ev⟩
    · cases ek
      exact ⟨t, ev⟩
    · cases ek
  have I1 : Inv X pins σ H { s with heap := h', toks := tk } := I.kept hk
  refine wpAny_bind (wpAny_newList ?_ (by rw [hal]; exact hkl))
  have hoL : (h'.push (seqObj "list" acc.toList.toArray 0)).get? h'.objs.size = some (seqObj "list" acc.toList.toArray 0) := Heap.get?_push_size _ rfl
  show wpAny _ _ _ _ _ { s with heap := h'.push (seqObj "list" acc.toList.toArray 0), toks := tk }
  have nL : ∀ b o, h'.get? b = some o → b ≠ h'.objs.size := fun b o e => Nat.ne_of_lt (Heap.lt_size e)
  refine wpAny_bind (wpAny_holding (PySem.W.list_sort_key_data (A := X.A.in1) (b := false) (s := { s with heap := h'.push (seqObj "list" acc.toList.toArray 0), toks := tk }) (fun p : Int × Int => PyData.int p.2) hoL hE ?_ ?_ hkl ?_ (PyProof.Rows.ksk_l1 _ _) (PyProof.Rows.ksk_t1 _ _) (fun v p hv hp h2 tk2 kb => ?_) fun out c h2 tk2 kb hout hlen hEo => ?_))
  · exact PySem.W.AllAlike.of (enc := fun p : Int × Int => PyData.int p.2) fun _ _ => rfl
  · exact PySem.W.Sortable.others (enc := fun p : Int × Int => PyData.int p.2) fun _ => ⟨(by intro z; cases z), fun xs => (by intro z; cases z)⟩
  · intro p _
    show X.A.units + 1 + 1 + 0 < cLine
    omega
  · obtain ⟨t, rfl⟩ := hv
    exact turn _ p t rfl hp h2 tk2 fun b o e => kb b o (nL b o (hk b o e)) (Heap.get?_push_of_some _ (hk b o e))
  · have hm := hEo
    rw [PySem.W.dataLe_int (fun p : Int × Int => p.2)] at hm
    have pm : (ps.mergeSort fun a b : Int × Int => decide (a.2 ≤ b.2)).Perm ps := List.mergeSort_perm _ _
    have pw : (ps.mergeSort fun a b : Int × Int => decide (a.2 ≤ b.2)).Pairwise (fun x y => x.2 ≤ y.2) := by
      have := List.pairwise_mergeSort (le := fun a b : Int × Int => decide (a.2 ≤ b.2)) (fun a b c h1 h2 => by simp at h1 h2 ⊢; omega) (fun a b => by simp; omega) ps
      exact this.imp fun h => of_decide_eq_true h
    generalize ps.mergeSort (fun a b : Int × Int => decide (a.2 ≤ b.2)) = ys at hm pm pw
    have hvals := each_vals hm
    have hlen2 : ((ys.map (·.1)).map V.int).length ≤ sizeLine := by
      rw [List.length_map, List.length_map, pm.length_eq]
      exact hkl
    refine wpAny_pure ⟨_, rfl, .ref h'.objs.size, upd H h'.objs.size (.lst ((ys.map (·.1)).map V.int)), I1.laid (t' := tk2) (fun b u e => kb b u (nL b u e) (Heap.get?_push_of_some _ e)) (Nat.le_refl _)
      (show ObjOk X.prog X.w _ _ _ (.lst ((ys.map (·.1)).map V.int)) from ⟨hlen2, out, c, hvals, hout⟩), rfl, q _ _ pm pw (I1.hok.fresh (Nat.le_refl _))⟩
def tSKL (T : List (Addr × Str)) (i : Nat) : TE := fun σ H Q => ∃ (a : Addr) (ps : List (Int × Int)), σ[i]? = some (some (.ref a)) ∧ H a = some (.dK (pD ps)) ∧ (ps.map (·.1)).Nodup ∧ Tabs T H ∧
  ∀ H1, ExtN H H1 → Tabs T H1 → ∀ (ys : List (Int × Int)) (q : Addr), ys.Perm ps → ys.Pairwise (fun x y => x.2 ≤ y.2) → H1 q = none → Q (.ref q) (upd H1 q (.lst ((ys.map (·.1)).map V.int)))
theorem pe_sortKeyLam {T : List (Addr × Str)} {c P : Addr} {k i : Nat} {x y : Str} {params : Arguments} {scope : Scope} {p px px2 py spos lpos kpos pos : Pos} (hcalm : X.calm = true) (hr : Room k X.A) (hg : Gl X "sorted") (hm : X.mg "sorted" = none)
    (hN : X.N[i]? = some x) (hvx : X.env.scope.names.lookup x = some .cell) (TB : TabB X.base X.mg c P) (hcode : X.env.code = .ref c) (hmT : (P, X.env.qual ++ "<lambda>") ∈ T) (huT : ∀ p ∈ T, p.1 = P → p.2 = X.env.qual ++ "<lambda>")
    (hdef : defaultsOf params X.env = ([], [])) (hk : scope.kind = .function) (hco : scope.isCoroutine = false) (hge : scope.isGenerator = false) (nocell : ∀ z ∈ scope.names, z.2 ≠ .cell) (hy : scope.names.lookup y = some .local) (hx : scope.names.lookup x = some .free)
    (hfree : ∀ z ∈ scope.names, z.2 = .free → X.env.scope.names.lookup z.1 = some .cell ∨ X.env.scope.names.lookup z.1 = some .free)
    (hbind : ∀ (q : Str) (cl : List (Str × Addr)) (v pm cv ctv : Value), bindArgs (PySem.W.kla_fn "<lambda>" q params (.Subscript (.Name x px2) (.Name y py) spos) scope cl pm cv ctv) ⟨[v], []⟩ = pure [(y, v)])
    (dx : (x == ("__debug__" : Str)) = false) (dy : (y == ("__debug__" : Str)) = false) (cdx : (x == ("__classdict__" : Str)) = false) :
    PE X (.Call (.Name "sorted" p) [.Name x px] [⟨some "key", .Lambda params (.Subscript (.Name x px2) (.Name y py) spos) scope lpos, kpos⟩] pos) (tSKL T i) := by
  refine ⟨fun pins s σ H Q I h => ?_⟩
  obtain ⟨a, ps, hs, hd, nd, hT, q⟩ := h
  have hfr : ∀ z ∈ scope.names, z.2 = .free → ∃ c, X.env.cells.lookup z.1 = some c := fun z hz e => (hfree z hz e).elim (fun q => I.ok.has _ (.inl q)) fun q => I.ok.has _ (.inr q)
  refine wpAny_Call_Name_kw (ld_blt I hg hm bb_sorted ?_)
  refine PyProof.Rows.callWith_kw (id := "sorted") (thn ((pa_cons (pe_var (pos := px) hN (Or.inr (Or.inl hvx)) dx cdx) pa_nil).run pos pins s σ H (fun vs H1 => vs = [.ref a] ∧ H1 = H) I ⟨_, hs, rfl, rfl⟩) fun us s1 hq => ?_)
  obtain ⟨vs, H1, I1, r1, e1, e2⟩ := hq
  subst e1 e2
  obtain ⟨u0, rfl, ru0⟩ := vals1 r1
  obtain rfl : u0 = Value.ref a := ru0
  show wpAny _ _ (evalAll ((do let v ← eval (.Lambda params (.Subscript (.Name x px2) (.Name y py) spos) scope lpos) X.env; standAt pos; pure v) :: [])) _ _ s1
  refine wpAny_evalAll_cons (wpAny_bind (lam_make2 I1 TB hcode hmT huT hT hdef hfr fun f c' pm ctv H2 s2 I2 eN T2 hf hfn hfrm hcO => wpAny_bind (wpAny_standAt (wpAny_pure ?_))))
  refine wpAny_evalAll_nil ?_
  show wpAny _ _ (call (.builtin "sorted") [.ref a] [(Str.ofString "key", .ref f)]) _ _ s2
  have hd2 := eN _ _ hd (by intro ps z; cases z)
  have hu64 : X.A.units + 64 < cLine := by have := hr.un; omega
  refine sort_dict_by hcalm hu64 I2 hd2 (fun v pr t hv hp h tk kb => ?_) (q H2 eN T2)
  subst hv
  have Ih : Inv X pins σ H2 { s2 with heap := h, toks := tk } := I2.kept kb
  obtain ⟨m, hn, hl⟩ := I2.loc
  obtain ⟨u, r, l⟩ := hl i x (.ref a) hN hs (Or.inr (Or.inl hvx))
  obtain rfl : u = Value.ref a := r
  rcases l with ⟨hk', _⟩ | ⟨_, cc, hcc, hcell⟩
  · have hk' : X.env.scope.names.lookup x = some .local := hk'
    rw [hvx] at hk'
    cases hk'
  obtain ⟨z, lo, ws, rel, dd⟩ := dk_rd Ih.hok (Rd.of hd2)
  obtain ⟨w', hw, rw'⟩ := RelO.some_of (v := .int pr.2) (o := valueAt ws (.inl pr.1)) (by have := rel.val (.inl pr.1); rw [pD_val nd (show (pr.1, pr.2) ∈ ps from hp)] at this; exact this)
  obtain ⟨t', rfl⟩ := rw'
  refine look_call (A := X.A.in1.in1) (s := { s2 with heap := h, toks := tk }) (knd := mixKind X.prog X.w) (k := .inl pr.1) (t := t') ?_ (kb _ _ hf) (codeO_at Ih.hok hcO) hk hco hge nocell hy hx (clo_has hfr (PySem.mem_of_lookup hx) hcc) ?_ dd.mapOf ?_ hw Ih.nolimit (fun _ _ _ => hbind _ _ _ _ _ _) dx dy cdx
  · have := hr.dp
    show X.A.depth < _
    omega
  · obtain ⟨o, h1, h2⟩ := hcell
    exact ⟨o, kb _ _ h1, h2⟩
  · exact kV_is (k := .inl pr.1) ⟨t, rfl⟩
end
/-- a def whose code object is known: it makes a lambda -/
structure FunC (K : PySem.W.Frag) (x qual : Str) (st : Stmt) (f : Addr) (fd : FuncData) (c : Addr) : Prop where
  ex : ∃ (oc : Value) (od : Option Addr) (kV doc pm : Value) (an : Option Addr) (ct : Value) (osl : Array (Option Value)),
    fd = PySem.W.fnOf x qual (defArgs st) (defBody st) (defScope st) .none kV doc pm an (.ref c) ct ∧ K.lookup f = some ⟨oc, od, .func fd, osl⟩ ∧ PySem.W.codeIn K (.ref c) qual = true
theorem FunC.ok {P : Program} {w : World} {K : PySem.W.Frag} {mg : Str → Option Value} {base : Heap} {x qual : Str} {st : Stmt} {f c : Addr} {fd : FuncData} {N ps : List Str} {k : Nat} {sp : Sp} (F : FunC K x qual st f fd c) (S : FnScope N ps (defScope st)) (len : ∀ vs H Q E, sp vs H Q E → vs.length = ps.length)
    (hbody : ∀ (A : Around) (outer : List Env) (s : Shared) (H : Hp) (vs : List V) (Q : VK) (E : XK), Room k (A.deeper (envOfC qual (defScope st) s.heap.objs.size f (.ref c))) → sp vs H Q E →
      ∃ t, PSs (cxOf CX0 P w K mg base N qual (defScope st) f (.ref c) A outer s H E).nox (defBody st) t ∧ t { nx := fun _ H' => Q .non H', rt := Q } (L2.start N vs) H) : FnOk P w K mg base CX0 (k + 1) f fd ps sp := by
  obtain ⟨oc, od, kV, doc, pm, an, ct, osl, rfl, lk, hcd⟩ := F.ex
  refine fn_of lk hcd S len fun A outer s H vs Q E hr hsp => ?_
  obtain ⟨t, h, q⟩ := hbody A outer s H vs Q E hr hsp
  exact ⟨t, h.nox, q⟩
end LX
/-! {number for .. in ..}: comprehensions of sets of numbers, and how many numbers a set holds -/
namespace LX
open PySem PySem.Spec PyProof.Rows L2 PpSet
section
variable {X : Cx}
/-- {elt for target in iter if ..}: D the new set, told by ini as it starts; R the rule of its add -/
def tSg (ini : Addr → HO) (R : V → List V → Hp → VK → Prop) (wi : TI) (g : TG) (tt : TT) (te : TE) (vs : List Nat) : TE := fun σ H Q => wi σ H fun J H1 => ∀ D, H1 D = none → ∃ W : Nat → Nat → Hp → Prop, (∃ m, W 0 m (upd H1 D (ini D))) ∧ ∀ i m H, W i m H →
  (J.stop i H ∧ Q (.ref D) H) ∨ (J.go i H ∧ ∃ Nx : Hp → Prop, (∀ H', Nx H' → ∃ m', m' < m ∧ W (i + 1) m' H') ∧ ∀ x H', J.yld i H x H' → g x (wipe σ vs) H' fun σ2 H2 => wipe σ2 vs = wipe σ vs ∧ tt σ2 H2 fun b H3 =>
    if b = true then te σ2 H3 fun y H4 => R (.ref D) [y] H4 fun _ H5 => Nx H5 else Nx H3)
/-- what a kind of set must offer -/
structure SetKd (X : Cx) (ini : Addr → HO) (R : V → List V → Hp → VK → Prop) : Prop where
  new : ∀ (H : Hp) (h : Heap), ObjOk X.prog X.w H (h.push { cls := .type "set", dict := none, data := .set #[] 0 (.fresh 0 0 (!X.w.params.followText "set-order")) }) h.objs.size (ini h.objs.size)
  add : ∀ Y : Cx, Y.prog = X.prog → Y.w = X.w → MtR Y "set.add" R
theorem intKd (X : Cx) : SetKd X (fun D => SetO X.w D (fun _ => false) 0) (rSAdd X.w) := ⟨fun H h => setO_new (setR_fresh X.w), fun Y _ e => by rw [← e]; exact mt_sadd⟩
theorem sg_core {ini : Addr → HO} {R : V → List V → Hp → VK → Prop} {pins : List (Addr × Obj)} {s : Shared} {σ : L2.St} {H : Hp} {Q : VK} {elt tg iter : Expr} {ifs : List Expr} {scope : Scope} {own : List (PySem.Str × Nat)} {pos pos' : Pos} {wi : TI} {g : TG} {tt : TT} {te : TE} {use : Option (Value → Sem Unit)} {Qf : Value → Shared → Prop}
    (KD : SetKd X ini R) (hc : X.calm = true) (hN : X.N.Nodup) (I : Inv X pins σ H s) (hi : PI X tg iter wi) (ok : BlkOk X.N X.env.scope scope own)
    (hg : ∀ (s : Shared) (H : Hp) (C : Addr) (cl : List (PySem.Str × Addr)) (fp : List Addr), PG (X.blk s H scope (compEnvC scope cl C X.env) fp) tg g) (ht : ∀ (s : Shared) (H : Hp) (C : Addr) (cl : List (PySem.Str × Addr)) (fp : List Addr), PTs (X.blk s H scope (compEnvC scope cl C X.env) fp) ifs tt)
    (he : ∀ (s : Shared) (H : Hp) (C : Addr) (cl : List (PySem.Str × Addr)) (fp : List Addr), PE (X.blk s H scope (compEnvC scope cl C X.env) fp) elt te) (hs : ∀ x, foldedSetIterable iter X.env x = pure x)
    (h : tSg ini R wi g tt te (own.map (·.2)) σ H Q)
    (hRR : ∀ D C s' m H', Inv X pins σ H' s' → Q (.ref D) H' → s'.heap.Ns C m → FpOk X pins H' C → compPost (model X.prog X.w) X.A X.xe use Qf (.ref D) C (.ok .next) s') :
    wpAny (model X.prog X.w) X.A (comprehension (.SetComp elt [⟨tg, iter, ifs, 0⟩] scope pos) scope X.env pos' (newSet (.type "set")) false (eval iter X.env) use) Qf X.xe s := by
  have hfree : ∀ y ∈ scope.names, y.2 = .free → ∃ c, X.env.cells.lookup y.1 = some c := fun y hy e => by
    rcases ok.free y hy e with k | k
    · exact I.ok.has _ (.inl k)
    · exact I.ok.has _ (.inr k)
  refine wpAny_comprehension_free (use := use) rfl hs (closure_ok hfree) ok.kind (fun y hy e => by rw [ok.uniq y hy, e])
    (thn (hi.run pins s σ H _ I h) fun xv s1 hx => thn hx fun itv s2 h2 => ?_)
  obtain ⟨it, fp, tn, J, H2, e, I2, T, st2, f2, q⟩ := h2
  subst e
  refine newSet_ok (newEnv_comp ?_)
  generalize hD : s2.heap.objs.size = D
  have hDn : H2 D = none := I2.hok.fresh (Nat.le_of_eq hD)
  obtain ⟨W, ⟨m0, w0⟩, turn⟩ := q D hDn
  -- the new list
  generalize hs3 : ({ s2 with heap := s2.heap.push { cls := .type "set", dict := none, data := .set #[] 0 (.fresh 0 0 (!X.w.params.followText "set-order")) } } : Shared) = s3
  have I3 : Inv X pins σ (upd H2 D (ini D)) s3 := by
    rw [← hs3]
    refine I2.laid (t' := s2.toks) (fun b o e => Heap.get?_push_of_some _ e) (Nat.le_of_eq hD) ?_
    rw [← hD]
    exact KD.new _ _
  have h3 : s3.heap = s2.heap.push { cls := .type "set", dict := none, data := .set #[] 0 (.fresh 0 0 (!X.w.params.followText "set-order")) } := by rw [← hs3]
  have sz : ∀ b ∈ fp, b < s2.heap.objs.size := fun b hb => by
    obtain ⟨o, e, _⟩ := T.obj _ _ st2 b hb
    exact Heap.lt_size e
  have f3 : ∀ b ∈ fp, FpOk X pins (upd H2 D (ini D)) b ∧ b < s3.heap.objs.size := fun b hb => by
    have hlt := sz b hb
    refine ⟨⟨?_, (f2 b hb).2⟩, by rw [h3, Heap.size_push]; exact Nat.lt_succ_of_lt hlt⟩
    rw [upd_ne (by rw [← hD]; exact Nat.ne_of_lt hlt)]
    exact (f2 b hb).1
  have st3 : tn 0 s3.heap := T.keep _ _ _ st2 fun b _ o e => by rw [h3]; exact Heap.get?_push_of_some _ e
  have I4 := block_start I3 ok hN f3
  have pg := hg s3 (upd H2 D (ini D)) s3.heap.objs.size (cellsFrom (s3.heap.objs.size + 1) scope.names (cloFrom X.env.cells scope.names [])) fp
  have pt := ht s3 (upd H2 D (ini D)) s3.heap.objs.size (cellsFrom (s3.heap.objs.size + 1) scope.names (cloFrom X.env.cells scope.names [])) fp
  have pe := he s3 (upd H2 D (ini D)) s3.heap.objs.size (cellsFrom (s3.heap.objs.size + 1) scope.names (cloFrom X.env.cells scope.names [])) fp
  show codeAny _ _ (.compStart (.SetComp elt [⟨tg, iter, ifs, 0⟩] scope pos) 0 (.ref it) (.ref D) (compEnvC scope (cellsFrom (s3.heap.objs.size + 1) scope.names (cloFrom X.env.cells scope.names [])) s3.heap.objs.size X.env)) (compPost (model X.prog X.w) X.A X.xe use Qf (.ref D) s3.heap.objs.size) { s3 with heap := pushCells (s3.heap.push { cls := .type "dict", data := .dict #[] }) scope.names }
  have nfp : ∀ b ∈ fp, (upd H2 D (ini D)) b = none := fun b hb => (f3 b hb).1.1
  generalize hce : compEnvC scope (cellsFrom (s3.heap.objs.size + 1) scope.names (cloFrom X.env.cells scope.names [])) s3.heap.objs.size X.env = ce at I4 pg pt pe ⊢
  have cL : ce.locals = s3.heap.objs.size := by subst hce; rfl
  generalize hH3 : upd H2 D (ini D) = H3 at I3 I4 pg pt pe w0 nfp f3
  generalize hs4 : ({ s3 with heap := pushCells (s3.heap.push { cls := .type "dict", data := .dict #[] }) scope.names } : Shared) = s4 at I4 ⊢
  have st4 : tn 0 s4.heap := T.keep _ _ _ st3 fun b _ o e => by rw [← hs4]; exact pushCells_keeps _ _ _ _ (Heap.get?_push_of_some _ e)
  have stat : ∀ {σ' : L2.St} {H' : Hp} {s' : Shared}, Inv (X.blk s3 H3 scope ce fp) [] σ' H' s' → (∀ b ∈ fp, H' b = none) → ∀ b ∈ fp, FpOk (X.blk s3 H3 scope ce fp) [] H' b := fun {σ' H' s'} I' hn b hb =>
    ⟨hn b hb, (I'.ok.exf b hb).1, I'.ok.exfs b hb, .inl hb, fun x c e => (I'.ok.exf b hb).2 x c e, fun p hp => absurd (show p ∈ ([] : List (Addr × Obj)) ++ [] from hp) (by simp)⟩
  have loop : codeAny (model X.prog X.w) X.A (.compLoop (.SetComp elt [⟨tg, iter, ifs, 0⟩] scope pos) 0 (.ref it) (.ref D) ce) (compPost (model X.prog X.w) X.A X.xe use Qf (.ref D) s3.heap.objs.size) s4 := by
    refine compLoopS_any (fun n s' => ∃ i H', Inv (X.blk s3 H3 scope ce fp) [] (wipe σ (own.map (·.2))) H' s' ∧ tn i s'.heap ∧ (∀ b ∈ fp, H' b = none) ∧ W i n H') ?_ m0 ⟨0, H3, I4, st4, nfp, w0⟩
    rintro n s5 ⟨i, H5, I5, st5, n5, w5⟩
    rcases turn i n H5 w5 with ⟨stop, qq⟩ | ⟨go, Nx, hNx, step⟩
    · have td := T.done (X.blk s3 H3 scope ce fp) rfl rfl rfl hc i [] s5 _ H5 (fun _ _ => False) I5 (stat I5 n5) st5 stop
      refine thnF td fun r s6 ⟨hr, I6⟩ => ?_
      subst hr
      -- back in the def's context
      have I7 : Inv X pins σ H5 s6 := I3.call' (ch := fp) I6.os I6.base I6.hok I6.bare fun b hb => ⟨(f3 b hb).1.2.2.2.1, (f3 b hb).1.2.1, (f3 b hb).1.2.2.2.2.1, (f3 b hb).1.2.2.2.2.2⟩
      have nC : H5 s3.heap.objs.size = none := by
        have z : H5 ce.locals = none := I6.free
        rw [cL] at z
        exact z
      obtain ⟨m, hn, _⟩ := I6.loc
      have hn : s6.heap.Ns ce.locals m := hn
      rw [cL] at hn
      exact hRR D s3.heap.objs.size s6 m H5 I7 qq hn (I3.fpOk (Nat.le_refl _) nC)
    · have ti := T.item (X.blk s3 H3 scope ce fp) rfl rfl rfl hc i [] s5 _ H5 (fun _ _ => False) I5 (stat I5 n5) st5 go
      refine thnF ti fun r s6 ⟨u, hr, h6⟩ => ?_
      subst hr
      refine thnF h6 fun _ s7 ⟨x, H7, I7, r7, y7, st7, n7⟩ => ?_
      have I7' := I7.pinned (stat I7 n7) (T.obj _ _ st7)
      refine thnF (pg.run _ s7 _ H7 x u _ I7' r7 (step x H7 y7)) fun _ s8 ⟨σ8, H8, I8, hw8, q8⟩ => ?_
      refine thnF (pt.run _ s8 σ8 H8 _ I8 q8) fun b s9 ⟨H9, I9, q9⟩ => ?_
      -- the turn's end
      have fin : ∀ {s' : Shared} {H' : Hp}, Inv (X.blk s3 H3 scope ce fp) ([] ++ pinsAt fp s7.heap) σ8 H' s' → Nx H' → ∃ m, m < n ∧ ∃ i H', Inv (X.blk s3 H3 scope ce fp) [] (wipe σ (own.map (·.2))) H' s' ∧ tn i s'.heap ∧ (∀ b ∈ fp, H' b = none) ∧ W i m H' := fun {s' H'} I' nx => by
        obtain ⟨m', hm, w'⟩ := hNx H' nx
        have pin' : ∀ b ∈ fp, ∀ o, s7.heap.get? b = some o → s'.heap.get? b = some o ∧ H' b = none := fun b hb o e =>
          let z := I'.pin (b, o) (List.mem_append_right _ (List.mem_append_right _ (mem_pinsAt hb e)))
          ⟨z.1, z.2.1⟩
        have hl : (wipe σ (own.map (·.2))).length = σ8.length := by rw [← hw8, wipe_length]
        refine ⟨m', hm, i + 1, H', (I'.unpinned (pins := [])).weak hl (fun j v e => ?_), T.keep _ _ _ st7 fun b hb o e => (pin' b hb o e).1, fun b hb => ?_, w'⟩
        · rw [← hw8] at e
          exact (wipe_some e).1
        · obtain ⟨o, e, _⟩ := T.obj _ _ st7 b hb
          exact (pin' b hb o e).2
      cases b with
      | false =>
        simp only [Bool.false_eq_true, if_false] at q9 ⊢
        exact fin I9 q9
      | true =>
        simp only [if_true] at q9 ⊢
        refine thnF (pe.run _ s9 σ8 H9 _ I9 q9) fun z s10 ⟨yv, H10, I10, r10, nx⟩ => ?_
        exact thnF (KD.add (X.blk s3 H3 scope ce fp) rfl rfl _ s10 σ8 H10 (.ref D) [yv] (.ref D) [z] _ I10 rfl (.cons r10 .nil) nx) fun _ s11 ⟨_, H11, I11, _, nx⟩ => fin I11 nx
  exact codeAny_compStart_set loop (T.self X.A 0 _ _ _ st4 loop)
theorem pe_sg {ini : Addr → HO} {R : V → List V → Hp → VK → Prop} {elt tg iter : Expr} {ifs : List Expr} {scope : Scope} {own : List (PySem.Str × Nat)} {pos : Pos} {wi : TI} {g : TG} {tt : TT} {te : TE} (KD : SetKd X ini R) (hc : X.calm = true) (hN : X.N.Nodup) (hi : PI X tg iter wi) (ok : BlkOk X.N X.env.scope scope own)
    (hg : ∀ (s : Shared) (H : Hp) (C : Addr) (cl : List (PySem.Str × Addr)) (fp : List Addr), PG (X.blk s H scope (compEnvC scope cl C X.env) fp) tg g) (ht : ∀ (s : Shared) (H : Hp) (C : Addr) (cl : List (PySem.Str × Addr)) (fp : List Addr), PTs (X.blk s H scope (compEnvC scope cl C X.env) fp) ifs tt)
    (he : ∀ (s : Shared) (H : Hp) (C : Addr) (cl : List (PySem.Str × Addr)) (fp : List Addr), PE (X.blk s H scope (compEnvC scope cl C X.env) fp) elt te) (hs : ∀ x, foldedSetIterable iter X.env x = pure x := by intro _; rfl) :
    PE X (.SetComp elt [⟨tg, iter, ifs, 0⟩] scope pos) (tSg ini R wi g tt te (own.map (·.2))) := by
  refine ⟨fun pins s σ H Q I h => ?_⟩
  rw [eval_SetComp]
  refine sg_core KD hc hN I hi ok hg ht he hs h fun D C s' m H' I' q hn f => ⟨m, hn, fun h'' sb => ?_⟩
  obtain ⟨f0, f1, f2, f3, f4, f5⟩ := f
  exact ⟨.ref D, H', I'.turned (t' := s'.toks) (fun b o hb e => (sb.2 b hb).trans e) f0 f1 f3 f4 f5, rfl, q⟩
/-- len of a set of numbers -/
def tLenO (w : World) (ta : TE) : TE := fun σ H Q => ta σ H fun x H1 => ∃ (a : Addr) (S : Int → Bool) (n : Nat), x = .ref a ∧ H1 a = some (SetO w a S n) ∧ n ≤ 4000 ∧ Q (.int (n : Nat)) H1
theorem pe_lenO {a : Expr} {ta : TE} {p pos : Pos} (hg : Gl X "len") (hm : X.mg "len" = none) (ha : PE X a ta)
    (na : starEach [a] X.env = (false, eval a X.env) :: starEach [] X.env := by rfl) : PE X (.Call (.Name "len" p) [a] [] pos) (tLenO X.w ta) := by
  refine ⟨fun pins s σ H Q I h => ?_⟩
  refine Call_ (ld_blt I hg hm boot_len ?_)
  refine PyProof.Rows.callWith_builtin1 (PyProof.Rows.args_cons (thn (ha.run pins s σ H _ I h) fun v s1 ⟨x, H1, I1, r1, q1⟩ => PyProof.Rows.args_nil ?_) na) na rfl
  obtain ⟨l, S, n, rfl, hq, hl, q1⟩ := q1
  cases r1
  have hS : s1.heap.SetOf (intKind X.prog X.w) l S n := (setO_get I1 hq).setOf
  obtain ⟨o, es, ep, t, ho, hex, hd, _, _, _, hf, hn⟩ := hS
  exact call_len_set ho hex hd hf (by omega) ⟨.int n, H1, I1.tok _, ⟨_, by rw [hn]⟩, q1⟩
end
end LX
/-! dict comprehensions: put into a name that no inner part reads; over a range, a list -/
namespace LX
open PySem PySem.Spec PyProof.Rows L2
theorem swd_true {kx vx : Expr} {gs : List Comprehension} {scope : Scope} {pos py : Pos} {y : Str} {l : Nat} {env : Env} (hk : env.scope.kind = .function) (hy : env.scope.names.lookup y = some .local) (hl : (py.line == pos.line) = true)
    (ha : (scope.names.any fun (n, k) => n == y && (k == .local || k == .cell)) = false) : swapsWith (.DictComp kx vx gs scope pos) (some (.Name y py)) l env = pure true := by
  have ky : env.kindOf y = some .local := hy
  have hb : env.blockKind = .function := by unfold Env.blockKind; rw [hk]; rfl
  unfold swapsWith
  simp only [hb, ky, ha, Expr.pos, hl]
  rfl
theorem ps_setDc {X : Cx} {i : Nat} {y : Str} {py : Pos} {kx vx tg iter : Expr} {ifs : List Expr} {scope : Scope} {own : List (Str × Nat)} {pos spos : Pos} {wi : TI} {g : TG} {tt : TT} {tk tv : TE} (hc : X.calm = true) (hN : X.N.Nodup) (hy : X.N[i]? = some y) (hyl : X.env.scope.names.lookup y = some .local)
    (hsw : swapsWith (.DictComp kx vx [⟨tg, iter, ifs, 0⟩] scope pos) (some (.Name y py)) spos.line X.env = pure true) (hi : PI X tg iter wi) (ok : BlkOk X.N X.env.scope scope own)
    (hg : ∀ (s : Shared) (H : Hp) (C : Addr) (cl : List (Str × Addr)) (fp : List Addr), PG (X.blk s H scope (compEnvC scope cl C X.env) fp) tg g) (ht : ∀ (s : Shared) (H : Hp) (C : Addr) (cl : List (Str × Addr)) (fp : List Addr), PTs (X.blk s H scope (compEnvC scope cl C X.env) fp) ifs tt)
    (hk : ∀ (s : Shared) (H : Hp) (C : Addr) (cl : List (Str × Addr)) (fp : List Addr), PE (X.blk s H scope (compEnvC scope cl C X.env) fp) kx tk)
    (he : ∀ (s : Shared) (H : Hp) (C : Addr) (cl : List (Str × Addr)) (fp : List Addr), PE (X.blk s H scope (compEnvC scope cl C X.env) fp) vx tv) (hs : ∀ x, foldedSetIterable iter X.env x = pure x := by intro _; rfl) :
    PS X (.Assign [.Name y py] (.DictComp kx vx [⟨tg, iter, ifs, 0⟩] scope pos) spos) (tAsg (tDc wi g tt tk tv (own.map (·.2))) (gName i)) := by
  refine ⟨fun pins s σ H D I h => ?_⟩
  rw [exec_Assign_Name_used _ _ _ _ hsw]
  refine wpAny_bind (wpAny_standAt (wpAny_bind ?_))
  show wpAny _ X.A (do let _ ← comprehension (.DictComp kx vx [⟨tg, iter, ifs, 0⟩] scope pos) scope X.env (firstIterPos [⟨tg, iter, ifs, 0⟩] pos) newDict false (eval iter X.env) (some (assign (.Name y py) X.env))) _ _ s
  have h : tDc wi g tt tk tv (own.map (·.2)) σ H (fun x H1 => gName i x σ H1 D.nx) := h
  refine wpAny_bind (thn (dc_core (Qf := fun _ s' => SP X pins D .next s') hc hN I hi ok hg ht hk he hs h fun L C s' m H' I' q hn f => ?_) fun _ s' hq => wpAny_pure (wpAny_pure hq))
  show wpAny _ _ (assign (.Name y py) X.env (.ref L)) _ _ _
  refine wpAny_assign_Name (store_ok2 (v := V.ref L) I' hN hy (.inl hyl) rfl (fun s2 I2 ⟨a, sb, ha⟩ => ?_) (.inr hyl))
  obtain ⟨f0, f1, f2, f3, f4, f5⟩ := f
  have haC : C ≠ a := by
    rcases ha with z | z
    · rw [z]; exact f1
    · exact fun e => f4 y a z e.symm
  refine ⟨m, hn.sameBut sb haC, fun h3 sb3 => ?_⟩
  exact ⟨_, H', I2.turned (t' := s2.toks) (fun b o hb e => (sb3.2 b hb).trans e) f0 f1 f3 f4 f5, q⟩
/-- a dict comprehension over a range, with its new dict looked after -/
def DcI (H1 : Hp) (R : Addr) (Pv : Nat → List (Key × V) → Hp → Prop) (i : Nat) (H' : Hp) : Prop := ∃ kvs, Pv i kvs H' ∧ H' R = some (.dK kvs) ∧ Fr [] H1 H'
def DcY (H1 : Hp) (R : Addr) (Pv : Nat → List (Key × V) → Hp → Prop) (i : Nat) (y z : V) (H5 : Hp) : Prop := ∃ kvs k, y = kV k ∧ H5 R = some (.dK kvs) ∧ kvs.length < sizeLine ∧ DcI H1 R Pv i (upd H5 R (.dK (putK kvs k z)))
def oDc (J : It) (g : TG) (tt : TT) (tk tv : TE) (vs : List Nat) (σ : L2.St) (H1 : Hp) (Q : VK) : Prop := ∀ D, H1 D = none → ∃ W : Nat → Nat → Hp → Prop, (∃ m, W 0 m (upd H1 D (.dK []))) ∧ ∀ i m H, W i m H →
  (J.stop i H ∧ Q (.ref D) H) ∨ (J.go i H ∧ ∃ Nx : Hp → Prop, (∀ H', Nx H' → ∃ m', m' < m ∧ W (i + 1) m' H') ∧ ∀ x H', J.yld i H x H' → g x (wipe σ vs) H' fun σ2 H2 => wipe σ2 vs = wipe σ vs ∧ tt σ2 H2 fun b H3 =>
    if b = true then tk σ2 H3 fun y H4 => tv σ2 H4 fun z H5 => ∃ kvs k, y = kV k ∧ H5 D = some (.dK kvs) ∧ kvs.length < sizeLine ∧ Nx (upd H5 D (.dK (putK kvs k z))) else Nx H3)
section
variable {K : PySem.W.Frag} {σ : L2.St} {H H1 : Hp} {Q : VK} {g : TG} {tt : TT} {tk tv : TE} {vs : List Nat}
theorem z_dc {wi : TI} (h : wi σ H fun J H1 => oDc J g tt tk tv vs σ H1 Q) : tDc wi g tt tk tv vs σ H Q := h
instance i_dc {wi : TI} : Stp (tDc wi g tt tk tv vs σ H Q) (wi σ H fun J H1 => oDc J g tt tk tv vs σ H1 Q) := ⟨z_dc⟩
theorem z_dcY {Pv : Nat → List (Key × V) → Hp → Prop} {i : Nat} {n : Int} {z : V} {kvs : List (Key × V)} {R : Addr} {H5 : Hp} (hR : H1 R = none) (h1 : H5 R = some (.dK kvs)) (f : Fr [] H1 H5) (hs : kvs.length < sizeLine) (k : ∀ H6, Fr [R] H5 H6 → Fr [] H1 H6 → Pv (i + 1) (putK kvs (.inl n) z) H6) : DcY H1 R Pv (i + 1) (.int n) z H5 :=
  ⟨kvs, .inl n, rfl, h1, hs, _, k _ (Fr.at (by simp)) (f.skip hR), upd_same, f.skip hR⟩
theorem z_dcR {lo : Int} {n : Nat} (Pv : Nat → List (Key × V) → Hp → Prop) (h0 : ∀ H', Fr [] H1 H' → Pv 0 [] H')
    (hs : ∀ R i kvs H', H1 R = none → i < n → Pv i kvs H' → H' R = some (.dK kvs) → Fr [] H1 H' → g (.int (lo + i)) (wipe σ vs) H' fun σ2 H2 => wipe σ2 vs = wipe σ vs ∧ tt σ2 H2 fun b H3 =>
      if b = true then tk σ2 H3 fun y H4 => tv σ2 H4 fun z H5 => DcY H1 R Pv (i + 1) y z H5 else DcI H1 R Pv (i + 1) H3)
    (hd : ∀ R kvs H', H1 R = none → Pv n kvs H' → H' R = some (.dK kvs) → Fr [] H1 H' → Q (.ref R) H') :
    oDc (Itr lo n) g tt tk tv vs σ H1 Q := fun R hR => by
  refine ⟨fun i m H => m = n - i ∧ i ≤ n ∧ DcI H1 R Pv i H, ⟨n, by simp, Nat.zero_le _, [], h0 _ (Fr.new hR), upd_same, Fr.new hR⟩, ?_⟩
  rintro i m H' ⟨rfl, hi, kvs, p, hk, f⟩
  by_cases hlt : i < n
  · refine .inr ⟨hlt, DcI H1 R Pv (i + 1), fun H'' p' => ⟨n - (i + 1), by omega, rfl, hlt, p'⟩, fun x H'' y => ?_⟩
    obtain ⟨e, y⟩ := y
    subst e y
    exact hs R i kvs _ hR hlt p hk f
  · obtain rfl : i = n := by omega
    exact .inl ⟨Nat.le_refl _, hd R kvs H' hR p hk f⟩
theorem z_dcL {a : Addr} {src : List V} (ha : H1 a = some (.lst src)) (Pv : Nat → List (Key × V) → Hp → Prop) (h0 : ∀ H', Fr [] H1 H' → Pv 0 [] H')
    (hs : ∀ R i x kvs H', H1 R = none → src[i]? = some x → i < src.length → Pv i kvs H' → H' R = some (.dK kvs) → Fr [] H1 H' → g x (wipe σ vs) H' fun σ2 H2 => wipe σ2 vs = wipe σ vs ∧ tt σ2 H2 fun b H3 =>
      if b = true then tk σ2 H3 fun y H4 => tv σ2 H4 fun z H5 => DcY H1 R Pv (i + 1) y z H5 else DcI H1 R Pv (i + 1) H3)
    (hd : ∀ R kvs H', H1 R = none → Pv src.length kvs H' → H' R = some (.dK kvs) → Fr [] H1 H' → Q (.ref R) H') :
    oDc (Itl K a) g tt tk tv vs σ H1 Q := fun R hR => by
  refine ⟨fun i m H => m = src.length - i ∧ i ≤ src.length ∧ DcI H1 R Pv i H, ⟨src.length, by simp, Nat.zero_le _, [], h0 _ (Fr.new hR), upd_same, Fr.new hR⟩, ?_⟩
  rintro i m H' ⟨rfl, hi, kvs, p, hk, f⟩
  by_cases hlt : i < src.length
  · have hx := List.getElem?_eq_getElem hlt
    refine .inr ⟨⟨_, _, SqL.of (f.g0 ha), hx⟩, DcI H1 R Pv (i + 1), fun H'' p' => ⟨src.length - (i + 1), by omega, rfl, hlt, p'⟩, fun x H'' y => ?_⟩
    obtain ⟨rfl, y⟩ := y
    have y := y _ (SqL.of (f.g0 ha))
    exact hs R i x kvs _ hR y hlt p hk f
  · obtain rfl : i = src.length := by omega
    exact .inl ⟨⟨_, SqL.of (f.g0 ha), Nat.le_refl _⟩, hd R kvs H' hR p hk f⟩
end
/-- list of a dict -/
def rLD : List V → Hp → VK → Prop := fun xs H Q => ∃ (a : Addr) (kvs : List (Key × V)), xs = [.ref a] ∧ Rd H a (.dK kvs) ∧ ∀ p, H p = none → Q (.ref p) (upd H p (.lst (kvs.map fun kv => kV kv.1)))
theorem call_listDU {X : Cx} (hc : X.calm = true) : CallR X (.type "list") rLD := call_listD hc
theorem z_listD {H : Hp} {Q : VK} {p : Addr} {kvs : List (Key × V)} (h1 : H p = some (.dK kvs)) (h : ∀ l H1, H l = none → Fr [] H H1 → H1 l = some (.lst (kvs.map fun kv => kV kv.1)) → Q (.ref l) H1) : rLD [.ref p] H Q := ⟨p, kvs, rfl, Rd.of h1, z_new h⟩
theorem cr_minE {X : Cx} {K : PySem.W.Frag} (e : X.K = K) (hc : X.calm = true) : CallR X (.builtin "min") (rMin K) := by subst e; exact cr_min hc
end LX
/-! k66, plainly: the tree of places above, and where two of its chains meet -/
namespace LX
inductive Anc (ab : Nat → Nat) : Nat → Nat → Prop
  | refl (k : Nat) : Anc ab k k
  | up {a k : Nat} : 0 < k → Anc ab a (ab k) → Anc ab a k
theorem Anc.le {ab : Nat → Nat} (h : ∀ k, 0 < k → ab k < k) {a k : Nat} (x : Anc ab a k) : a ≤ k := by
  induction x with
  | refl => exact Nat.le_refl _
  | up hk _ ih => have := h _ hk; omega
theorem Anc.trans {ab : Nat → Nat} {a b c : Nat} (x : Anc ab a b) (y : Anc ab b c) : Anc ab a c := by
  induction y with
  | refl => exact x
  | up hk _ ih => exact .up hk ih
theorem Anc.step {ab : Nat → Nat} {a k : Nat} (x : Anc ab a k) (n : a ≠ k) : 0 < k ∧ Anc ab a (ab k) := by
  cases x with
  | refl => exact absurd rfl n
  | up hk y => exact ⟨hk, y⟩
theorem Anc.zero {ab : Nat → Nat} (h : ∀ k, 0 < k → ab k < k) : ∀ k, Anc ab 0 k := by
  intro k
  induction k using Nat.strongRecOn with
  | ind k ih =>
    by_cases hk : k = 0
    · subst hk; exact .refl 0
    · exact .up (by omega) (ih _ (h k (by omega)))
def meet (ab : Nat → Nat) : Nat → Nat → Nat → Nat
  | 0, a, _ => a
  | f + 1, a, b => if a = b then a else if b < a then meet ab f (ab a) b else meet ab f a (ab b)
theorem meet_ok {ab : Nat → Nat} (h : ∀ k, 0 < k → ab k < k) : ∀ (f a b : Nat), a + b ≤ f → Anc ab (meet ab f a b) a ∧ Anc ab (meet ab f a b) b ∧ ∀ c, Anc ab c a → Anc ab c b → Anc ab c (meet ab f a b)
  | 0, a, b, hf => by
    obtain ⟨rfl, rfl⟩ : a = 0 ∧ b = 0 := by omega
    exact ⟨.refl _, .refl _, fun c h1 _ => h1⟩
  | f + 1, a, b, hf => by
    unfold meet
    by_cases e : a = b
    · rw [if_pos e]
      subst e
      exact ⟨.refl _, .refl _, fun c h1 _ => h1⟩
    rw [if_neg e]
    by_cases l : b < a
    · rw [if_pos l]
      have ha := h a (by omega)
      obtain ⟨h1, h2, h3⟩ := meet_ok h f (ab a) b (by omega)
      refine ⟨.up (by omega) h1, h2, fun c c1 c2 => h3 c (c1.step fun z => ?_).2 c2⟩
      have := c2.le h
      omega
    · rw [if_neg l]
      have hb := h b (by omega)
      obtain ⟨h1, h2, h3⟩ := meet_ok h f a (ab b) (by omega)
      refine ⟨h1, .up (by omega) h2, fun c c1 c2 => h3 c c1 (c2.step fun z => ?_).2⟩
      have := c1.le h
      omega
/-- a way from 0 to k that shuns d -/
inductive Av (links : Nat → List Nat) (d : Nat) : Nat → Prop
  | zero : d ≠ 0 → Av links d 0
  | step {p k : Nat} : 0 < k → Av links d p → p ∈ links k → k ≠ d → Av links d k
/-- what every way to k passes is passed by every way to the place above, or is that place -/
def LE1 (links : Nat → List Nat) (ab : Nat → Nat) (k : Nat) : Prop := ∀ d, d ≠ k → ¬ Av links d k → d = ab k ∨ ¬ Av links d (ab k)
theorem dom_anc {links : Nat → List Nat} {ab : Nat → Nat} (h : ∀ k, 0 < k → ab k < k) (hE : ∀ k, 0 < k → LE1 links ab k) : ∀ k d, ¬ Av links d k → Anc ab d k := by
  intro k
  induction k using Nat.strongRecOn with
  | ind k ih =>
    intro d hd
    by_cases e : d = k
    · subst e; exact .refl _
    · have hk : 0 < k := by
        rcases Nat.eq_zero_or_pos k with z | z
        · subst z; exact absurd (.zero e) hd
        · exact z
      rcases hE k hk d e hd with z | z
      · rw [z]; exact .up hk (.refl _)
      · exact .up hk (ih _ (h k hk) d z)
theorem fix_dom {links : Nat → List Nat} {ab : Nat → Nat} (hf : ∀ k, 0 < k → ∀ p ∈ links k, Anc ab (ab k) p) {d k : Nat} (a : Av links d k) : ¬ Anc ab d k := by
  induction a with
  | zero hz =>
    intro x
    cases x with
    | refl => exact hz rfl
    | up hk _ => exact absurd hk (Nat.lt_irrefl 0)
  | step hk _ hp hn ih =>
    intro x
    exact ih ((x.step fun z => hn z.symm).2.trans (hf _ hk _ hp))
theorem walk_down {links : Nat → List Nat} {ab : Nat → Nat} (h : ∀ k, 0 < k → ab k < k) (hE : ∀ k, 0 < k → LE1 links ab k) {d m p : Nat} (x : Anc ab m p) (hd : ¬ Av links d p) (y : Anc ab d m) : d = m ∨ ¬ Av links d m := by
  induction x with
  | refl => exact .inr hd
  | @up p hk x ih =>
    have h1 := y.le h
    have h2 := x.le h
    have h3 := h p hk
    rcases hE p hk d (by omega) hd with z | z
    · exact .inl (by omega)
    · exact ih z
/-- an update keeps it -/
theorem le1_new {links : Nat → List Nat} {ab : Nat → Nat} (h : ∀ k, 0 < k → ab k < k) (hE : ∀ k, 0 < k → LE1 links ab k) {k m : Nat} (hk : 0 < k) (hne : links k ≠ []) (hm : ∀ p ∈ links k, Anc ab m p) (hn : ∀ c, (∀ p ∈ links k, Anc ab c p) → Anc ab c m) (d : Nat) (e : d ≠ k) (hd : ¬ Av links d k) : d = m ∨ ¬ Av links d m := by
  have all : ∀ p ∈ links k, ¬ Av links d p := fun p hp a => hd (.step hk a hp e.symm)
  have y := hn d fun p hp => dom_anc h hE p d (all p hp)
  obtain ⟨p, hp⟩ : ∃ p, p ∈ links k := by
    cases e2 : links k with
    | nil => exact absurd e2 hne
    | cons a l => exact ⟨a, List.mem_cons_self⟩
  exact walk_down h hE (hm p hp) (all p hp) y
/-- one place moved up its chain -/
structure Mv (ab ab' : Nat → Nat) (j m : Nat) : Prop where
  at' : ab' j = m
  rest : ∀ x, x ≠ j → ab' x = ab x
theorem Mv.shrink {ab ab' : Nat → Nat} {j m : Nat} (M : Mv ab ab' j m) (hm : Anc ab m j) {c x : Nat} (a : Anc ab' c x) : Anc ab c x := by
  induction a with
  | refl => exact .refl _
  | @up x hx a ih =>
    by_cases e : x = j
    · subst e
      rw [M.at'] at ih
      exact ih.trans hm
    · rw [M.rest x e] at ih
      exact .up hx ih
/-- no common place above all links lies beyond the place above -/
def JJ (links : Nat → List Nat) (ab : Nat → Nat) (k : Nat) : Prop := ∀ c, (∀ p ∈ links k, Anc ab c p) → c ≤ ab k
theorem JJ.keep {links : Nat → List Nat} {ab ab' : Nat → Nat} {j m : Nat} (h : ∀ k, 0 < k → ab k < k) (M : Mv ab ab' j m) (hm : Anc ab m j) (hn : ∀ c, (∀ p ∈ links j, Anc ab c p) → Anc ab c m) {k : Nat} (J : JJ links ab k) : JJ links ab' k := fun c hc => by
  by_cases e : k = j
  · subst e
    rw [M.at']
    exact (hn c fun p hp => M.shrink hm (hc p hp)).le h
  · rw [M.rest k e]
    exact J c fun p hp => M.shrink hm (hc p hp)
theorem JJ.first {links : Nat → List Nat} {ab : Nat → Nat} (h : ∀ k, 0 < k → ab k < k) {k : Nat} (hp : ab k ∈ links k) : JJ links ab k := fun c hc => (hc _ hp).le h
theorem LE1.keep {links : Nat → List Nat} {ab ab' : Nat → Nat} {j m : Nat} (M : Mv ab ab' j m) (hj : ∀ d, d ≠ j → ¬ Av links d j → d = m ∨ ¬ Av links d m) {k : Nat} (L : LE1 links ab k) : LE1 links ab' k := fun d e hd => by
  by_cases z : k = j
  · subst z
    rw [M.at']
    exact hj d e hd
  · rw [M.rest k z]
    exact L d e hd
theorem LE1.first {links : Nat → List Nat} {ab : Nat → Nat} {k : Nat} (hk : 0 < k) (hp : ab k ∈ links k) : LE1 links ab k := fun d e hd => .inr fun a => hd (.step hk a hp e.symm)
theorem Anc.lin {ab : Nat → Nat} (h : ∀ k, 0 < k → ab k < k) {a b x : Nat} (p : Anc ab a x) (q : Anc ab b x) (l : a ≤ b) : Anc ab a b := by
  induction q with
  | refl => exact p
  | @up x hx q ih =>
    have h1 := q.le h
    have h2 := h x hx
    exact ih (p.step (by omega)).2
theorem Mv.upper {ab ab' : Nat → Nat} {j m : Nat} (h : ∀ k, 0 < k → ab k < k) (M : Mv ab ab' j m) {y x : Nat} (l : j ≤ y) (a : Anc ab y x) : Anc ab' y x := by
  induction a with
  | refl => exact .refl _
  | @up x hx a ih =>
    have h1 := a.le h
    have h2 := h x hx
    exact .up hx (by rw [M.rest x (by omega)]; exact ih)
theorem Mv.off {ab ab' : Nat → Nat} {j m : Nat} (M : Mv ab ab' j m) {c x : Nat} (n : ¬ Anc ab j x) (a : Anc ab c x) : Anc ab' c x := by
  induction a with
  | refl => exact .refl _
  | @up x hx a ih =>
    have e : x ≠ j := fun z => n (by rw [z]; exact .refl _)
    exact .up hx (by rw [M.rest x e]; exact ih fun q => n (.up hx q))
theorem Mv.below {ab ab' : Nat → Nat} {j m : Nat} (h : ∀ k, 0 < k → ab k < k) (M : Mv ab ab' j m) {c x : Nat} (l : x < j) (a : Anc ab c x) : Anc ab' c x := M.off (fun z => by have := z.le h; omega) a
def WW (p0 ab : Nat → Nat) (k : Nat) : Prop := ∀ c, Anc ab c (p0 k) → c < ab k → Anc ab c (ab k)
def VV (p0 ab : Nat → Nat) (i k : Nat) : Prop := ∀ y, i ≤ y → Anc ab y (ab k) → Anc ab y (p0 k)
def SS1 (p0 ab : Nat → Nat) (k : Nat) : Prop := Anc ab (ab k) (p0 k)
section
variable {p0 ab ab' : Nat → Nat} {j m k : Nat}
theorem VV.next (V : VV p0 ab j k) : VV p0 ab (j + 1) k := fun y hy => V y (by omega)
theorem VV.keep (h : ∀ k, 0 < k → ab k < k) (h' : ∀ k, 0 < k → ab' k < k) (M : Mv ab ab' j m) (hm : Anc ab m j) (hl : m < j) (V : VV p0 ab j k) : VV p0 ab' (j + 1) k := fun y hy a => by
  by_cases e : k = j
  · subst e
    rw [M.at'] at a
    have := a.le h'
    omega
  · rw [M.rest k e] at a
    exact M.upper h (by omega) (V y (by omega) (M.shrink hm a))
theorem VV.start (S : SS1 p0 ab k) : VV p0 ab 0 k := fun _ _ a => a.trans S
theorem SS1.keep (h : ∀ k, 0 < k → ab k < k) (M : Mv ab ab' j m) (hp : p0 k < j) (hk : k ≠ j) (S : SS1 p0 ab k) : SS1 p0 ab' k := by
  unfold SS1
  rw [M.rest k hk]
  exact M.below h hp S
theorem WW.keep (h : ∀ k, 0 < k → ab k < k) (h' : ∀ k, 0 < k → ab' k < k) (M : Mv ab ab' j m) (hm : Anc ab m (p0 j)) (hl : m < ab j) (hj : ab j < j) (hmj : Anc ab m j) (V : ∀ k, 0 < k → VV p0 ab j k) (W : ∀ k, 0 < k → WW p0 ab k) (hk : 0 < k) : WW p0 ab' k := fun c a l => by
  have a1 := M.shrink hmj a
  by_cases e : k = j
  · subst e
    rw [M.at'] at l ⊢
    have c1 := W k hk c a1 (by omega)
    have m1 := W k hk m hm hl
    exact M.below h (by omega) (c1.lin h m1 (by omega))
  · rw [M.rest k e] at l ⊢
    have c1 := W k hk c a1 l
    by_cases n : Anc ab j (ab k)
    · have n2 := V k hk j (Nat.le_refl _) n
      have u1 := M.upper h (Nat.le_refl _) n
      have u2 := M.upper h (Nat.le_refl _) n2
      by_cases g : j ≤ c
      · exact M.upper h g c1
      · exact (a.lin h' u2 (by omega)).trans u1
    · exact M.off n c1
end
def meetAll (ab : Nat → Nat) : List Nat → Nat → Nat
  | [], a => a
  | o :: l, a => meetAll ab l (meet ab (a + o) a o)
theorem meetAll_ok {ab : Nat → Nat} (h : ∀ k, 0 < k → ab k < k) : ∀ (l : List Nat) (a : Nat), Anc ab (meetAll ab l a) a ∧ (∀ o ∈ l, Anc ab (meetAll ab l a) o) ∧ ∀ c, Anc ab c a → (∀ o ∈ l, Anc ab c o) → Anc ab c (meetAll ab l a)
  | [], a => ⟨.refl _, fun o ho => (by cases ho), fun c x _ => x⟩
  | o :: l, a => by
    obtain ⟨m1, m2, m3⟩ := meet_ok h (a + o) a o (Nat.le_refl _)
    obtain ⟨h1, h2, h3⟩ := meetAll_ok h l (meet ab (a + o) a o)
    refine ⟨h1.trans m1, fun p hp => ?_, fun c x y => h3 c (m3 c x (y o List.mem_cons_self)) fun q hq => y q (List.mem_cons_of_mem _ hq)⟩
    rcases List.mem_cons.mp hp with rfl | hp
    · exact h1.trans m2
    · exact h2 p hp
/-- the best above k: as the program finds it -/
def best (links : Nat → List Nat) (ab : Nat → Nat) (k : Nat) : Nat := meetAll ab (links k) ((links k).headD 0)
theorem best_ok {links : Nat → List Nat} {ab : Nat → Nat} (h : ∀ k, 0 < k → ab k < k) {k : Nat} (hne : links k ≠ []) : (∀ p ∈ links k, Anc ab (best links ab k) p) ∧ ∀ c, (∀ p ∈ links k, Anc ab c p) → Anc ab c (best links ab k) := by
  obtain ⟨h1, h2, h3⟩ := meetAll_ok h (links k) ((links k).headD 0)
  refine ⟨h2, fun c hc => h3 c (hc _ ?_) hc⟩
  cases e : links k with
  | nil => exact absurd e hne
  | cons a l => exact List.mem_cons_self
/-- what holds in a sweep, before place j -/
structure Swp (links : Nat → List Nat) (p0 ab : Nat → Nat) (j : Nat) : Prop where
  lt : ∀ k, 0 < k → ab k < k
  p : ∀ k, 0 < k → p0 k ∈ links k ∧ p0 k < k
  E : ∀ k, 0 < k → LE1 links ab k
  J : ∀ k, 0 < k → JJ links ab k
  W : ∀ k, 0 < k → WW p0 ab k
  V : ∀ k, 0 < k → VV p0 ab j k
  S : ∀ k, 0 < k → k < j → SS1 p0 ab k
def put (ab : Nat → Nat) (j m : Nat) : Nat → Nat := fun x => if x = j then m else ab x
theorem put_mv (ab : Nat → Nat) (j m : Nat) : Mv ab (put ab j m) j m := ⟨if_pos rfl, fun x hx => if_neg hx⟩
theorem Swp.first {links : Nat → List Nat} {p0 : Nat → Nat} (p : ∀ k, 0 < k → p0 k ∈ links k ∧ p0 k < k) : Swp links p0 p0 1 :=
  ⟨fun k hk => (p k hk).2, p, fun k hk => .first hk (p k hk).1, fun k hk => .first (fun k hk => (p k hk).2) (p k hk).1, fun k _ c a _ => a, fun k _ y _ a => a, fun k hk h => by omega⟩
theorem Swp.again {links : Nat → List Nat} {p0 ab : Nat → Nat} {j : Nat} (s : Swp links p0 ab j) (hS : ∀ k, 0 < k → SS1 p0 ab k) : Swp links p0 ab 1 :=
  ⟨s.lt, s.p, s.E, s.J, s.W, fun k hk y _ a => VV.start (hS k hk) y (Nat.zero_le _) a, fun k hk h => by omega⟩
theorem Swp.step {links : Nat → List Nat} {p0 ab : Nat → Nat} {j : Nat} (s : Swp links p0 ab j) (hj : 0 < j) :
    best links ab j ≤ ab j ∧ Swp links p0 (put ab j (best links ab j)) (j + 1) := by
  have hne : links j ≠ [] := fun e => by have := (s.p j hj).1; rw [e] at this; cases this
  obtain ⟨b1, b2⟩ := best_ok s.lt hne
  have hle := s.J j hj _ b1
  refine ⟨hle, ?_⟩
  generalize best links ab j = m at b1 b2 hle
  have M := put_mv ab j m
  have hp := s.p j hj
  have mp := b1 _ hp.1
  have hab := s.lt j hj
  have maj : Anc ab m (ab j) := by
    rcases Nat.lt_or_ge m (ab j) with l | l
    · exact s.W j hj m mp l
    · rw [show m = ab j by omega]; exact .refl _
  have mj : Anc ab m j := .up hj maj
  have lt' : ∀ k, 0 < k → put ab j m k < k := fun k hk => by
    by_cases e : k = j
    · subst e; rw [M.at']; omega
    · rw [M.rest k e]; exact s.lt k hk
  refine ⟨lt', s.p, fun k hk => (s.E k hk).keep M fun d hd a => le1_new s.lt s.E hj hne b1 b2 d hd a, fun k hk => (s.J k hk).keep s.lt M mj b2, fun k hk => ?_, fun k hk => (s.V k hk).keep s.lt lt' M mj (by omega), fun k hk hkj => ?_⟩
  · rcases Nat.lt_or_ge m (ab j) with l | l
    · exact WW.keep s.lt lt' M mp l hab mj s.V s.W hk
    · have : put ab j m = ab := funext fun x => by
        by_cases e : x = j
        · subst e; rw [M.at']; omega
        · exact M.rest x e
      rw [this]
      exact s.W k hk
  · by_cases e : k = j
    · subst e
      unfold SS1
      rw [M.at']
      exact M.below s.lt hp.2 mp
    · exact (s.S k hk (by omega)).keep s.lt M (by have := (s.p k hk).2; omega) e
theorem Swp.fix {links : Nat → List Nat} {p0 ab : Nat → Nat} {j : Nat} (s : Swp links p0 ab j) (hb : ∀ k, 0 < k → best links ab k = ab k) (k d : Nat) : Anc ab d k ↔ ¬ Av links d k := by
  refine ⟨fun a v => fix_dom (fun k hk p hp => ?_) v a, dom_anc s.lt s.E k d⟩
  have hne : links k ≠ [] := fun e => by have := (s.p k hk).1; rw [e] at this; cases this
  have := (best_ok s.lt hne).1 p hp
  rw [hb k hk] at this
  exact this
/-- a whole sweep over the places 1 .. n -/
def sweep (links : Nat → List Nat) : Nat → Nat → (Nat → Nat) → (Nat → Nat)
  | 0, _, ab => ab
  | n + 1, j, ab => sweep links n (j + 1) (put ab j (best links ab j))
theorem sweep_ok {links : Nat → List Nat} {p0 : Nat → Nat} : ∀ (n j : Nat) (ab : Nat → Nat), 0 < j → Swp links p0 ab j → Swp links p0 (sweep links n j ab) (j + n) ∧ ∀ k, sweep links n j ab k ≤ ab k
  | 0, j, ab, _, s => ⟨s, fun k => Nat.le_refl _⟩
  | n + 1, j, ab, hj, s => by
    obtain ⟨hle, s'⟩ := s.step hj
    obtain ⟨h1, h2⟩ := sweep_ok n (j + 1) _ (by omega) s'
    refine ⟨by rw [show j + (n + 1) = j + 1 + n by omega]; exact h1, fun k => Nat.le_trans (h2 k) ?_⟩
    by_cases e : k = j
    · subst e; rw [(put_mv ab k _).at']; exact hle
    · rw [(put_mv ab j _).rest k e]; exact Nat.le_refl _
end LX
namespace LX
open PySem PySem.Spec PyProof.Rows L2 NdefX
def top (i : Nat) : Stmt := PySem.Challenge.pw_saggar_k66_whole_owners.main.body.getD i (.Pass ⟨0, 0, 0, 0⟩)
abbrev s_is_ref : Stmt := top 9
abbrev N_is_ref : List Str := ["word"]
theorem sc_is_ref : FnScope N_is_ref ["word"] (defScope s_is_ref) := ⟨rfl, rfl, rfl, by decide +kernel, rfl, by decide +kernel, by decide +kernel⟩
abbrev s_ref_of : Stmt := top 10
abbrev N_ref_of : List Str := ["word"]
theorem sc_ref_of : FnScope N_ref_of ["word"] (defScope s_ref_of) := ⟨rfl, rfl, rfl, by decide +kernel, rfl, by decide +kernel, by decide +kernel⟩
abbrev s_reached : Stmt := top 12
abbrev N_reached : List Str := ["store", "roots", "found", "waiting", "word", "number"]
theorem sc_reached : FnScope N_reached ["store", "roots"] (defScope s_reached) := ⟨rfl, rfl, rfl, by decide +kernel, rfl, by decide +kernel, by decide +kernel⟩
abbrev s_words_of : Stmt := top 13
abbrev N_words_of : List Str := ["store", "numbers", "number"]
theorem sc_words_of : FnScope N_words_of ["store", "numbers"] (defScope s_words_of) := ⟨rfl, rfl, rfl, by decide +kernel, rfl, by decide +kernel, by decide +kernel⟩
abbrev s_collect : Stmt := top 14
abbrev N_collect : List Str := ["store", "roots", "found", "gone", "number"]
theorem sc_collect : FnScope N_collect ["store", "roots"] (defScope s_collect) := ⟨rfl, rfl, rfl, by decide +kernel, rfl, by decide +kernel, by decide +kernel⟩
abbrev s_object_of : Stmt := top 17
abbrev N_object_of : List Str := ["space", "word"]
theorem sc_object_of : FnScope N_object_of ["space", "word"] (defScope s_object_of) := ⟨rfl, rfl, rfl, by decide +kernel, rfl, by decide +kernel, by decide +kernel⟩
abbrev s_row_of : Stmt := top 18
abbrev N_row_of : List Str := ["space", "number"]
theorem sc_row_of : FnScope N_row_of ["space", "number"] (defScope s_row_of) := ⟨rfl, rfl, rfl, by decide +kernel, rfl, by decide +kernel, by decide +kernel⟩
abbrev s_paths : Stmt := top 19
abbrev N_paths : List Str := ["space", "found", "words", "waiting", "k", "later", "path", "word", "number", "row"]
theorem sc_paths : FnScope N_paths ["space"] (defScope s_paths) := ⟨rfl, rfl, rfl, by decide +kernel, rfl, by decide +kernel, by decide +kernel⟩
abbrev s_links_into : Stmt := top 20
abbrev N_links_into : List Str := ["space", "order", "places", "k", "links", "_", "rows", "number", "word"]
theorem sc_links_into : FnScope N_links_into ["space", "order"] (defScope s_links_into) := ⟨rfl, rfl, rfl, by decide +kernel, rfl, by decide +kernel, by decide +kernel⟩
abbrev s_meeting : Stmt := top 21
abbrev N_meeting : List Str := ["above", "one", "other"]
theorem sc_meeting : FnScope N_meeting ["above", "one", "other"] (defScope s_meeting) := ⟨rfl, rfl, rfl, by decide +kernel, rfl, by decide +kernel, by decide +kernel⟩
abbrev s_places_above : Stmt := top 22
abbrev N_places_above : List Str := ["links", "above", "k", "changed", "best", "other"]
theorem sc_places_above : FnScope N_places_above ["links"] (defScope s_places_above) := ⟨rfl, rfl, rfl, by decide +kernel, rfl, by decide +kernel, by decide +kernel⟩
abbrev s_owners : Stmt := top 23
abbrev N_owners : List Str := ["space", "order", "above", "found", "k"]
theorem sc_owners : FnScope N_owners ["space"] (defScope s_owners) := ⟨rfl, rfl, rfl, by decide +kernel, rfl, by decide +kernel, by decide +kernel⟩
abbrev s_retained_words : Stmt := top 24
abbrev N_retained_words : List Str := ["space", "order", "above", "found", "number"]
theorem sc_retained_words : FnScope N_retained_words ["space"] (defScope s_retained_words) := ⟨rfl, rfl, rfl, by decide +kernel, rfl, by decide +kernel, by decide +kernel⟩
abbrev s_Store___init__ : Stmt := inClass (top 27) 0
abbrev N_Store___init__ : List Str := ["self", "room", "entries"]
theorem sc_Store___init__ : FnScope N_Store___init__ ["self", "room", "entries"] (defScope s_Store___init__) := ⟨rfl, rfl, rfl, by decide +kernel, rfl, by decide +kernel, by decide +kernel⟩
abbrev s_Store_exists : Stmt := inClass (top 27) 2
abbrev N_Store_exists : List Str := ["self", "number"]
theorem sc_Store_exists : FnScope N_Store_exists ["self", "number"] (defScope s_Store_exists) := ⟨rfl, rfl, rfl, by decide +kernel, rfl, by decide +kernel, by decide +kernel⟩
abbrev s_Store_numbers : Stmt := inClass (top 27) 3
abbrev N_Store_numbers : List Str := ["self"]
theorem sc_Store_numbers : FnScope N_Store_numbers ["self"] (defScope s_Store_numbers) := ⟨rfl, rfl, rfl, by decide +kernel, rfl, by decide +kernel, by decide +kernel⟩
abbrev s_Store_free_number : Stmt := inClass (top 27) 4
abbrev N_Store_free_number : List Str := ["self"]
theorem sc_Store_free_number : FnScope N_Store_free_number ["self"] (defScope s_Store_free_number) := ⟨rfl, rfl, rfl, by decide +kernel, rfl, by decide +kernel, by decide +kernel⟩
abbrev s_Store_allocate : Stmt := inClass (top 27) 5
abbrev N_Store_allocate : List Str := ["self", "kind", "size", "number"]
theorem sc_Store_allocate : FnScope N_Store_allocate ["self", "kind", "size"] (defScope s_Store_allocate) := ⟨rfl, rfl, rfl, by decide +kernel, rfl, by decide +kernel, by decide +kernel⟩
abbrev s_Store_size : Stmt := inClass (top 27) 6
abbrev N_Store_size : List Str := ["self", "number"]
theorem sc_Store_size : FnScope N_Store_size ["self", "number"] (defScope s_Store_size) := ⟨rfl, rfl, rfl, by decide +kernel, rfl, by decide +kernel, by decide +kernel⟩
abbrev s_Store_kind : Stmt := inClass (top 27) 7
abbrev N_Store_kind : List Str := ["self", "number"]
theorem sc_Store_kind : FnScope N_Store_kind ["self", "number"] (defScope s_Store_kind) := ⟨rfl, rfl, rfl, by decide +kernel, rfl, by decide +kernel, by decide +kernel⟩
abbrev s_Store_set_kind : Stmt := inClass (top 27) 8
abbrev N_Store_set_kind : List Str := ["self", "number", "word"]
theorem sc_Store_set_kind : FnScope N_Store_set_kind ["self", "number", "word"] (defScope s_Store_set_kind) := ⟨rfl, rfl, rfl, by decide +kernel, rfl, by decide +kernel, by decide +kernel⟩
abbrev s_Store_put : Stmt := inClass (top 27) 10
abbrev N_Store_put : List Str := ["self", "number", "at", "word"]
theorem sc_Store_put : FnScope N_Store_put ["self", "number", "at", "word"] (defScope s_Store_put) := ⟨rfl, rfl, rfl, by decide +kernel, rfl, by decide +kernel, by decide +kernel⟩
abbrev s_Store_slots : Stmt := inClass (top 27) 11
abbrev N_Store_slots : List Str := ["self", "number", "place"]
theorem sc_Store_slots : FnScope N_Store_slots ["self", "number"] (defScope s_Store_slots) := ⟨rfl, rfl, rfl, by decide +kernel, rfl, by decide +kernel, by decide +kernel⟩
abbrev s_Store_drop : Stmt := inClass (top 27) 12
abbrev N_Store_drop : List Str := ["self", "number"]
theorem sc_Store_drop : FnScope N_Store_drop ["self", "number"] (defScope s_Store_drop) := ⟨rfl, rfl, rfl, by decide +kernel, rfl, by decide +kernel, by decide +kernel⟩
abbrev s_Store_close_up : Stmt := inClass (top 27) 13
abbrev N_Store_close_up : List Str := ["self", "words", "places", "old", "number", "place"]
theorem sc_Store_close_up : FnScope N_Store_close_up ["self"] (defScope s_Store_close_up) := ⟨rfl, rfl, rfl, by decide +kernel, rfl, by decide +kernel, by decide +kernel⟩
abbrev s_Store_exchange : Stmt := inClass (top 27) 16
abbrev N_Store_exchange : List Str := ["self", "first", "second", "one", "other"]
theorem sc_Store_exchange : FnScope N_Store_exchange ["self", "first", "second"] (defScope s_Store_exchange) := ⟨rfl, rfl, rfl, by decide +kernel, rfl, by decide +kernel, by decide +kernel⟩
abbrev s_Space___init__ : Stmt := inClass (top 30) 0
abbrev N_Space___init__ : List Str := ["self", "room", "entries"]
theorem sc_Space___init__ : FnScope N_Space___init__ ["self", "room", "entries"] (defScope s_Space___init__) := ⟨rfl, rfl, rfl, by decide +kernel, rfl, by decide +kernel, by decide +kernel⟩
abbrev s_Space_set_root : Stmt := inClass (top 30) 3
abbrev N_Space_set_root : List Str := ["self", "k", "word"]
theorem sc_Space_set_root : FnScope N_Space_set_root ["self", "k", "word"] (defScope s_Space_set_root) := ⟨rfl, rfl, rfl, by decide +kernel, rfl, by decide +kernel, by decide +kernel⟩
abbrev s_Space_hold : Stmt := inClass (top 30) 4
abbrev N_Space_hold : List Str := ["self", "word"]
theorem sc_Space_hold : FnScope N_Space_hold ["self", "word"] (defScope s_Space_hold) := ⟨rfl, rfl, rfl, by decide +kernel, rfl, by decide +kernel, by decide +kernel⟩
abbrev s_Space_all_roots : Stmt := inClass (top 30) 7
abbrev N_Space_all_roots : List Str := ["self"]
theorem sc_Space_all_roots : FnScope N_Space_all_roots ["self"] (defScope s_Space_all_roots) := ⟨rfl, rfl, rfl, by decide +kernel, rfl, by decide +kernel, by decide +kernel⟩
abbrev s_Space_collect : Stmt := inClass (top 30) 8
abbrev N_Space_collect : List Str := ["self"]
theorem sc_Space_collect : FnScope N_Space_collect ["self"] (defScope s_Space_collect) := ⟨rfl, rfl, rfl, by decide +kernel, rfl, by decide +kernel, by decide +kernel⟩
abbrev s_Space_collect_with : Stmt := inClass (top 30) 9
abbrev N_Space_collect_with : List Str := ["self", "word"]
theorem sc_Space_collect_with : FnScope N_Space_collect_with ["self", "word"] (defScope s_Space_collect_with) := ⟨rfl, rfl, rfl, by decide +kernel, rfl, by decide +kernel, by decide +kernel⟩
abbrev s_Space_live_words : Stmt := inClass (top 30) 10
abbrev N_Space_live_words : List Str := ["self"]
theorem sc_Space_live_words : FnScope N_Space_live_words ["self"] (defScope s_Space_live_words) := ⟨rfl, rfl, rfl, by decide +kernel, rfl, by decide +kernel, by decide +kernel⟩
abbrev s_Space_new : Stmt := inClass (top 30) 11
abbrev N_Space_new : List Str := ["self", "kind", "size"]
theorem sc_Space_new : FnScope N_Space_new ["self", "kind", "size"] (defScope s_Space_new) := ⟨rfl, rfl, rfl, by decide +kernel, rfl, by decide +kernel, by decide +kernel⟩
abbrev s_Space_fitted : Stmt := inClass (top 30) 12
abbrev N_Space_fitted : List Str := ["self", "kind", "size"]
theorem sc_Space_fitted : FnScope N_Space_fitted ["self", "kind", "size"] (defScope s_Space_fitted) := ⟨rfl, rfl, rfl, by decide +kernel, rfl, by decide +kernel, by decide +kernel⟩
abbrev s__law_number : Stmt := top 32
abbrev N__law_number : List Str := ["_law_cell", "_law_k", "_law_mixed"]
theorem sc__law_number : FnScope N__law_number ["_law_cell", "_law_k"] (defScope s__law_number) := ⟨rfl, rfl, rfl, by decide +kernel, rfl, by decide +kernel, by decide +kernel⟩
abbrev s__law_word : Stmt := top 33
abbrev N__law_word : List Str := ["_law_x", "_law_many", "_law_rest"]
theorem sc__law_word : FnScope N__law_word ["_law_x", "_law_many"] (defScope s__law_word) := ⟨rfl, rfl, rfl, by decide +kernel, rfl, by decide +kernel, by decide +kernel⟩
abbrev s__law_is : Stmt := top 34
abbrev N__law_is : List Str := ["_law_actual", "_law_due"]
theorem sc__law_is : FnScope N__law_is ["_law_actual", "_law_due"] (defScope s__law_is) := ⟨rfl, rfl, rfl, by decide +kernel, rfl, by decide +kernel, by decide +kernel⟩
abbrev s__law_same : Stmt := top 35
abbrev N__law_same : List Str := ["_law_actual", "_law_due", "_law_k"]
theorem sc__law_same : FnScope N__law_same ["_law_actual", "_law_due"] (defScope s__law_same) := ⟨rfl, rfl, rfl, by decide +kernel, rfl, by decide +kernel, by decide +kernel⟩
abbrev s__law_sizes : Stmt := top 36
abbrev N__law_sizes : List Str := ["_law_x", "_law_count", "_law_rest", "_law_sizes_here", "_law_k", "_law_y"]
theorem sc__law_sizes : FnScope N__law_sizes ["_law_x"] (defScope s__law_sizes) := ⟨rfl, rfl, rfl, by decide +kernel, rfl, by decide +kernel, by decide +kernel⟩
abbrev s__law_rows : Stmt := top 37
abbrev N__law_rows : List Str := ["_law_sizes_here", "_law_x", "_law_rows_here", "_law_rest", "_law_k", "_law_y", "_law_row", "_law_at"]
theorem sc__law_rows : FnScope N__law_rows ["_law_sizes_here", "_law_x"] (defScope s__law_rows) := ⟨rfl, rfl, rfl, by decide +kernel, rfl, by decide +kernel, by decide +kernel⟩
abbrev s__law_roots : Stmt := top 38
abbrev N__law_roots : List Str := ["_law_many", "_law_x", "_law_words", "_law_rest", "_law_k", "_law_y"]
theorem sc__law_roots : FnScope N__law_roots ["_law_many", "_law_x"] (defScope s__law_roots) := ⟨rfl, rfl, rfl, by decide +kernel, rfl, by decide +kernel, by decide +kernel⟩
abbrev s__law_space : Stmt := top 39
abbrev N__law_space : List Str := ["_law_rows_here", "_law_words", "_law_space_here", "_law_k", "_law_at"]
theorem sc__law_space : FnScope N__law_space ["_law_rows_here", "_law_words"] (defScope s__law_space) := ⟨rfl, rfl, rfl, by decide +kernel, rfl, by decide +kernel, by decide +kernel⟩
abbrev s__law_reached : Stmt := top 40
abbrev N__law_reached : List Str := ["_law_rows_here", "_law_words", "_law_left_out", "_law_found", "_law_waiting", "_law_word_here", "_law_number_here"]
theorem sc__law_reached : FnScope N__law_reached ["_law_rows_here", "_law_words", "_law_left_out"] (defScope s__law_reached) := ⟨rfl, rfl, rfl, by decide +kernel, rfl, by decide +kernel, by decide +kernel⟩
abbrev s__law_above : Stmt := top 41
abbrev N__law_above : List Str := ["_law_rows_here", "_law_words", "_law_above_here", "_law_found", "_law_number_here", "_law_left", "_law_other"]
theorem sc__law_above : FnScope N__law_above ["_law_rows_here", "_law_words"] (defScope s__law_above) := ⟨rfl, rfl, rfl, by decide +kernel, rfl, by decide +kernel, by decide +kernel⟩
abbrev s__law_owner : Stmt := top 42
abbrev N__law_owner : List Str := ["_law_above_here", "_law_number_here", "_law_owner_here", "_law_other"]
theorem sc__law_owner : FnScope N__law_owner ["_law_above_here", "_law_number_here"] (defScope s__law_owner) := ⟨rfl, rfl, rfl, by decide +kernel, rfl, by decide +kernel, by decide +kernel⟩
abbrev s__law_told : Stmt := top 43
abbrev N__law_told : List Str := ["_law_space_here", "_law_turn", "_law_weights"]
theorem sc__law_told : FnScope N__law_told ["_law_space_here", "_law_turn"] (defScope s__law_told) := ⟨rfl, rfl, rfl, by decide +kernel, rfl, by decide +kernel, by decide +kernel⟩
abbrev s__law_marks : Stmt := top 44
abbrev N__law_marks : List Str := ["_law_space_here", "_law_marks_here"]
theorem sc__law_marks : FnScope N__law_marks ["_law_space_here"] (defScope s__law_marks) := ⟨rfl, rfl, rfl, by decide +kernel, rfl, by decide +kernel, by decide +kernel⟩
abbrev s__law_agrees : Stmt := top 45
abbrev N__law_agrees : List Str := ["_law_space_here", "_law_rows_here", "_law_words", "_law_turn", "_law_above_here", "_law_before", "_law_told_here", "_law_weights", "_law_total", "_law_number_here", "_law_owner_here", "_law_below", "_law_due", "_law_other"]
theorem sc__law_agrees : FnScope N__law_agrees ["_law_space_here", "_law_rows_here", "_law_words", "_law_turn"] (defScope s__law_agrees) := ⟨rfl, rfl, rfl, by decide +kernel, rfl, by decide +kernel, by decide +kernel⟩
abbrev s__law_collected : Stmt := top 46
abbrev N__law_collected : List Str := ["_law_space_here", "_law_rows_here", "_law_words", "_law_found", "_law_gone", "_law_number_here"]
theorem sc__law_collected : FnScope N__law_collected ["_law_space_here", "_law_rows_here", "_law_words"] (defScope s__law_collected) := ⟨rfl, rfl, rfl, by decide +kernel, rfl, by decide +kernel, by decide +kernel⟩
abbrev s__law_changed : Stmt := top 47
abbrev N__law_changed : List Str := ["_law_space_here", "_law_rows_here", "_law_words", "_law_many", "_law_x", "_law_numbers", "_law_number_here", "_law_deed", "_law_place", "_law_word_here", "_law_first", "_law_second", "_law_row", "_law_at"]
theorem sc__law_changed : FnScope N__law_changed ["_law_space_here", "_law_rows_here", "_law_words", "_law_many", "_law_x"] (defScope s__law_changed) := ⟨rfl, rfl, rfl, by decide +kernel, rfl, by decide +kernel, by decide +kernel⟩
abbrev s__law_kept : Stmt := top 48
abbrev N__law_kept : List Str := ["_law_space_here", "_law_rows_here", "_law_words", "_law_k"]
theorem sc__law_kept : FnScope N__law_kept ["_law_space_here", "_law_rows_here", "_law_words"] (defScope s__law_kept) := ⟨rfl, rfl, rfl, by decide +kernel, rfl, by decide +kernel, by decide +kernel⟩
abbrev s__law_chain : Stmt := top 49
abbrev N__law_chain : List Str := ["_law_count", "_law_space_here", "_law_k", "_law_told_here", "_law_weights"]
theorem sc__law_chain : FnScope N__law_chain ["_law_count"] (defScope s__law_chain) := ⟨rfl, rfl, rfl, by decide +kernel, rfl, by decide +kernel, by decide +kernel⟩
abbrev s_law : Stmt := top 50
abbrev N_law : List Str := ["_law_script", "_law_cells", "_law_cell", "_law_x", "_law_rows_here", "_law_built", "_law_k", "_law_words", "_law_space_here"]
theorem sc_law : FnScope N_law ["_law_script"] (defScope s_law) := ⟨rfl, rfl, rfl, by decide +kernel, rfl, by decide +kernel, by decide +kernel⟩
structure Wd (P : Program) (K : PySem.W.Frag) (mg : Str → Option Value) where
  n_bool : mg "bool" = none
  n_dict : mg "dict" = none
  n_int : mg "int" = none
  n_isinstance : mg "isinstance" = none
  n_len : mg "len" = none
  n_list : mg "list" = none
  n_min : mg "min" = none
  n_range : mg "range" = none
  n_reversed : mg "reversed" = none
  n_sorted : mg "sorted" = none
  n_sum : mg "sum" = none
  t_NIL : Tok
  g_NIL : mg "NIL" = some (.int (0) t_NIL)
  t_HEADER : Tok
  g_HEADER : mg "HEADER" = some (.int (3) t_HEADER)
  t_ROOTS : Tok
  g_ROOTS : mg "ROOTS" = some (.int (16) t_ROOTS)
  c_Store : Addr
  g_Store : mg "Store" = some (.ref c_Store)
  C_Store : Cls K c_Store
  na_Store_room : NoAttr K c_Store "room"
  na_Store_entries : NoAttr K c_Store "entries"
  na_Store_words : NoAttr K c_Store "words"
  na_Store__places : NoAttr K c_Store "_places"
  na_Store__least : NoAttr K c_Store "_least"
  c_Space : Addr
  g_Space : mg "Space" = some (.ref c_Space)
  C_Space : Cls K c_Space
  na_Space_store : NoAttr K c_Space "store"
  na_Space_pressure : NoAttr K c_Space "pressure"
  na_Space_always : NoAttr K c_Space "always"
  na_Space_allocations : NoAttr K c_Space "allocations"
  na_Space_collections : NoAttr K c_Space "collections"
  na_Space__roots : NoAttr K c_Space "_roots"
  na_Space__held : NoAttr K c_Space "_held"
  na_Space__saved : NoAttr K c_Space "_saved"
  f_is_ref : Addr
  fd_is_ref : FuncData
  F_is_ref : Fun K "is_ref" "is_ref" s_is_ref f_is_ref fd_is_ref
  g_is_ref : mg "is_ref" = some (.ref f_is_ref)
  b_is_ref : Binds K fd_is_ref ["word"] []
  f_ref_of : Addr
  fd_ref_of : FuncData
  F_ref_of : Fun K "ref_of" "ref_of" s_ref_of f_ref_of fd_ref_of
  g_ref_of : mg "ref_of" = some (.ref f_ref_of)
  b_ref_of : Binds K fd_ref_of ["word"] []
  f_reached : Addr
  fd_reached : FuncData
  F_reached : Fun K "reached" "reached" s_reached f_reached fd_reached
  g_reached : mg "reached" = some (.ref f_reached)
  b_reached : Binds K fd_reached ["store", "roots"] []
  f_words_of : Addr
  fd_words_of : FuncData
  F_words_of : Fun K "words_of" "words_of" s_words_of f_words_of fd_words_of
  g_words_of : mg "words_of" = some (.ref f_words_of)
  b_words_of : Binds K fd_words_of ["store", "numbers"] []
  f_collect : Addr
  fd_collect : FuncData
  F_collect : Fun K "collect" "collect" s_collect f_collect fd_collect
  g_collect : mg "collect" = some (.ref f_collect)
  b_collect : Binds K fd_collect ["store", "roots"] []
  f_object_of : Addr
  fd_object_of : FuncData
  F_object_of : Fun K "object_of" "object_of" s_object_of f_object_of fd_object_of
  g_object_of : mg "object_of" = some (.ref f_object_of)
  b_object_of : Binds K fd_object_of ["space", "word"] []
  f_row_of : Addr
  fd_row_of : FuncData
  F_row_of : Fun K "row_of" "row_of" s_row_of f_row_of fd_row_of
  g_row_of : mg "row_of" = some (.ref f_row_of)
  b_row_of : Binds K fd_row_of ["space", "number"] []
  f_paths : Addr
  fd_paths : FuncData
  F_paths : Fun K "paths" "paths" s_paths f_paths fd_paths
  g_paths : mg "paths" = some (.ref f_paths)
  b_paths : Binds K fd_paths ["space"] []
  f_links_into : Addr
  fd_links_into : FuncData
  F_links_into : Fun K "links_into" "links_into" s_links_into f_links_into fd_links_into
  g_links_into : mg "links_into" = some (.ref f_links_into)
  b_links_into : Binds K fd_links_into ["space", "order"] []
  f_meeting : Addr
  fd_meeting : FuncData
  F_meeting : Fun K "meeting" "meeting" s_meeting f_meeting fd_meeting
  g_meeting : mg "meeting" = some (.ref f_meeting)
  b_meeting : Binds K fd_meeting ["above", "one", "other"] []
  f_places_above : Addr
  fd_places_above : FuncData
  F_places_above : Fun K "places_above" "places_above" s_places_above f_places_above fd_places_above
  g_places_above : mg "places_above" = some (.ref f_places_above)
  b_places_above : Binds K fd_places_above ["links"] []
  f_owners : Addr
  fd_owners : FuncData
  F_owners : Fun K "owners" "owners" s_owners f_owners fd_owners
  g_owners : mg "owners" = some (.ref f_owners)
  b_owners : Binds K fd_owners ["space"] []
  f_retained_words : Addr
  fd_retained_words : FuncData
  F_retained_words : Fun K "retained_words" "retained_words" s_retained_words f_retained_words fd_retained_words
  g_retained_words : mg "retained_words" = some (.ref f_retained_words)
  b_retained_words : Binds K fd_retained_words ["space"] []
  f_Store___init__ : Addr
  fd_Store___init__ : FuncData
  F_Store___init__ : Fun K "__init__" "Store.__init__" s_Store___init__ f_Store___init__ fd_Store___init__
  M_Store : Mk K c_Store f_Store___init__
  b_Store___init__ : Binds K fd_Store___init__ ["self", "room", "entries"] []
  f_Store_exists : Addr
  fd_Store_exists : FuncData
  F_Store_exists : Fun K "exists" "Store.exists" s_Store_exists f_Store_exists fd_Store_exists
  m_Store_exists : Meth K c_Store "exists" f_Store_exists
  b_Store_exists : Binds K fd_Store_exists ["self", "number"] []
  f_Store_numbers : Addr
  fd_Store_numbers : FuncData
  F_Store_numbers : Fun K "numbers" "Store.numbers" s_Store_numbers f_Store_numbers fd_Store_numbers
  m_Store_numbers : Meth K c_Store "numbers" f_Store_numbers
  b_Store_numbers : Binds K fd_Store_numbers ["self"] []
  f_Store_free_number : Addr
  fd_Store_free_number : FuncData
  F_Store_free_number : Fun K "free_number" "Store.free_number" s_Store_free_number f_Store_free_number fd_Store_free_number
  m_Store_free_number : Meth K c_Store "free_number" f_Store_free_number
  b_Store_free_number : Binds K fd_Store_free_number ["self"] []
  f_Store_allocate : Addr
  fd_Store_allocate : FuncData
  F_Store_allocate : Fun K "allocate" "Store.allocate" s_Store_allocate f_Store_allocate fd_Store_allocate
  m_Store_allocate : Meth K c_Store "allocate" f_Store_allocate
  b_Store_allocate : Binds K fd_Store_allocate ["self", "kind", "size"] []
  f_Store_size : Addr
  fd_Store_size : FuncData
  F_Store_size : Fun K "size" "Store.size" s_Store_size f_Store_size fd_Store_size
  m_Store_size : Meth K c_Store "size" f_Store_size
  b_Store_size : Binds K fd_Store_size ["self", "number"] []
  f_Store_kind : Addr
  fd_Store_kind : FuncData
  F_Store_kind : Fun K "kind" "Store.kind" s_Store_kind f_Store_kind fd_Store_kind
  m_Store_kind : Meth K c_Store "kind" f_Store_kind
  b_Store_kind : Binds K fd_Store_kind ["self", "number"] []
  f_Store_set_kind : Addr
  fd_Store_set_kind : FuncData
  F_Store_set_kind : Fun K "set_kind" "Store.set_kind" s_Store_set_kind f_Store_set_kind fd_Store_set_kind
  m_Store_set_kind : Meth K c_Store "set_kind" f_Store_set_kind
  b_Store_set_kind : Binds K fd_Store_set_kind ["self", "number", "word"] []
  f_Store_put : Addr
  fd_Store_put : FuncData
  F_Store_put : Fun K "put" "Store.put" s_Store_put f_Store_put fd_Store_put
  m_Store_put : Meth K c_Store "put" f_Store_put
  b_Store_put : Binds K fd_Store_put ["self", "number", "at", "word"] []
  f_Store_slots : Addr
  fd_Store_slots : FuncData
  F_Store_slots : Fun K "slots" "Store.slots" s_Store_slots f_Store_slots fd_Store_slots
  m_Store_slots : Meth K c_Store "slots" f_Store_slots
  b_Store_slots : Binds K fd_Store_slots ["self", "number"] []
  f_Store_drop : Addr
  fd_Store_drop : FuncData
  F_Store_drop : Fun K "drop" "Store.drop" s_Store_drop f_Store_drop fd_Store_drop
  m_Store_drop : Meth K c_Store "drop" f_Store_drop
  b_Store_drop : Binds K fd_Store_drop ["self", "number"] []
  f_Store_close_up : Addr
  fd_Store_close_up : FuncData
  cA_Store_close_up : Addr
  PT_Store_close_up : Addr
  hd_Store_close_up : PySem.W.codeHdIn K cA_Store_close_up PT_Store_close_up = true
  np_Store_close_up : K.lookup PT_Store_close_up = none
  G_Store_close_up : FunC K "close_up" "Store.close_up" s_Store_close_up f_Store_close_up fd_Store_close_up cA_Store_close_up
  F_Store_close_up : Fun K "close_up" "Store.close_up" s_Store_close_up f_Store_close_up fd_Store_close_up
  m_Store_close_up : Meth K c_Store "close_up" f_Store_close_up
  b_Store_close_up : Binds K fd_Store_close_up ["self"] []
  f_Store_exchange : Addr
  fd_Store_exchange : FuncData
  F_Store_exchange : Fun K "exchange" "Store.exchange" s_Store_exchange f_Store_exchange fd_Store_exchange
  m_Store_exchange : Meth K c_Store "exchange" f_Store_exchange
  b_Store_exchange : Binds K fd_Store_exchange ["self", "first", "second"] []
  f_Space___init__ : Addr
  fd_Space___init__ : FuncData
  F_Space___init__ : Fun K "__init__" "Space.__init__" s_Space___init__ f_Space___init__ fd_Space___init__
  M_Space : Mk K c_Space f_Space___init__
  b_Space___init__ : Binds K fd_Space___init__ ["self", "room", "entries"] []
  f_Space_set_root : Addr
  fd_Space_set_root : FuncData
  F_Space_set_root : Fun K "set_root" "Space.set_root" s_Space_set_root f_Space_set_root fd_Space_set_root
  m_Space_set_root : Meth K c_Space "set_root" f_Space_set_root
  b_Space_set_root : Binds K fd_Space_set_root ["self", "k", "word"] []
  f_Space_hold : Addr
  fd_Space_hold : FuncData
  F_Space_hold : Fun K "hold" "Space.hold" s_Space_hold f_Space_hold fd_Space_hold
  m_Space_hold : Meth K c_Space "hold" f_Space_hold
  b_Space_hold : Binds K fd_Space_hold ["self", "word"] []
  f_Space_all_roots : Addr
  fd_Space_all_roots : FuncData
  F_Space_all_roots : Fun K "all_roots" "Space.all_roots" s_Space_all_roots f_Space_all_roots fd_Space_all_roots
  m_Space_all_roots : Meth K c_Space "all_roots" f_Space_all_roots
  b_Space_all_roots : Binds K fd_Space_all_roots ["self"] []
  f_Space_collect : Addr
  fd_Space_collect : FuncData
  F_Space_collect : Fun K "collect" "Space.collect" s_Space_collect f_Space_collect fd_Space_collect
  m_Space_collect : Meth K c_Space "collect" f_Space_collect
  b_Space_collect : Binds K fd_Space_collect ["self"] []
  f_Space_collect_with : Addr
  fd_Space_collect_with : FuncData
  F_Space_collect_with : Fun K "collect_with" "Space.collect_with" s_Space_collect_with f_Space_collect_with fd_Space_collect_with
  m_Space_collect_with : Meth K c_Space "collect_with" f_Space_collect_with
  b_Space_collect_with : Binds K fd_Space_collect_with ["self", "word"] []
  f_Space_live_words : Addr
  fd_Space_live_words : FuncData
  F_Space_live_words : Fun K "live_words" "Space.live_words" s_Space_live_words f_Space_live_words fd_Space_live_words
  m_Space_live_words : Meth K c_Space "live_words" f_Space_live_words
  b_Space_live_words : Binds K fd_Space_live_words ["self"] []
  f_Space_new : Addr
  fd_Space_new : FuncData
  F_Space_new : Fun K "new" "Space.new" s_Space_new f_Space_new fd_Space_new
  m_Space_new : Meth K c_Space "new" f_Space_new
  b_Space_new : Binds K fd_Space_new ["self", "kind", "size"] []
  f_Space_fitted : Addr
  fd_Space_fitted : FuncData
  F_Space_fitted : Fun K "fitted" "Space.fitted" s_Space_fitted f_Space_fitted fd_Space_fitted
  m_Space_fitted : Meth K c_Space "fitted" f_Space_fitted
  b_Space_fitted : Binds K fd_Space_fitted ["self", "kind", "size"] []
  f__law_number : Addr
  fd__law_number : FuncData
  F__law_number : Fun K "_law_number" "_law_number" s__law_number f__law_number fd__law_number
  g__law_number : mg "_law_number" = some (.ref f__law_number)
  b__law_number : Binds K fd__law_number ["_law_cell", "_law_k"] []
  f__law_word : Addr
  fd__law_word : FuncData
  F__law_word : Fun K "_law_word" "_law_word" s__law_word f__law_word fd__law_word
  g__law_word : mg "_law_word" = some (.ref f__law_word)
  b__law_word : Binds K fd__law_word ["_law_x", "_law_many"] []
  f__law_is : Addr
  fd__law_is : FuncData
  F__law_is : Fun K "_law_is" "_law_is" s__law_is f__law_is fd__law_is
  g__law_is : mg "_law_is" = some (.ref f__law_is)
  b__law_is : Binds K fd__law_is ["_law_actual", "_law_due"] []
  f__law_same : Addr
  fd__law_same : FuncData
  F__law_same : Fun K "_law_same" "_law_same" s__law_same f__law_same fd__law_same
  g__law_same : mg "_law_same" = some (.ref f__law_same)
  b__law_same : Binds K fd__law_same ["_law_actual", "_law_due"] []
  f__law_sizes : Addr
  fd__law_sizes : FuncData
  F__law_sizes : Fun K "_law_sizes" "_law_sizes" s__law_sizes f__law_sizes fd__law_sizes
  g__law_sizes : mg "_law_sizes" = some (.ref f__law_sizes)
  b__law_sizes : Binds K fd__law_sizes ["_law_x"] []
  f__law_rows : Addr
  fd__law_rows : FuncData
  F__law_rows : Fun K "_law_rows" "_law_rows" s__law_rows f__law_rows fd__law_rows
  g__law_rows : mg "_law_rows" = some (.ref f__law_rows)
  b__law_rows : Binds K fd__law_rows ["_law_sizes_here", "_law_x"] []
  f__law_roots : Addr
  fd__law_roots : FuncData
  F__law_roots : Fun K "_law_roots" "_law_roots" s__law_roots f__law_roots fd__law_roots
  g__law_roots : mg "_law_roots" = some (.ref f__law_roots)
  b__law_roots : Binds K fd__law_roots ["_law_many", "_law_x"] []
  f__law_space : Addr
  fd__law_space : FuncData
  F__law_space : Fun K "_law_space" "_law_space" s__law_space f__law_space fd__law_space
  g__law_space : mg "_law_space" = some (.ref f__law_space)
  b__law_space : Binds K fd__law_space ["_law_rows_here", "_law_words"] []
  f__law_reached : Addr
  fd__law_reached : FuncData
  F__law_reached : Fun K "_law_reached" "_law_reached" s__law_reached f__law_reached fd__law_reached
  g__law_reached : mg "_law_reached" = some (.ref f__law_reached)
  b__law_reached : Binds K fd__law_reached ["_law_rows_here", "_law_words", "_law_left_out"] []
  f__law_above : Addr
  fd__law_above : FuncData
  F__law_above : Fun K "_law_above" "_law_above" s__law_above f__law_above fd__law_above
  g__law_above : mg "_law_above" = some (.ref f__law_above)
  b__law_above : Binds K fd__law_above ["_law_rows_here", "_law_words"] []
  f__law_owner : Addr
  fd__law_owner : FuncData
  F__law_owner : Fun K "_law_owner" "_law_owner" s__law_owner f__law_owner fd__law_owner
  g__law_owner : mg "_law_owner" = some (.ref f__law_owner)
  b__law_owner : Binds K fd__law_owner ["_law_above_here", "_law_number_here"] []
  f__law_told : Addr
  fd__law_told : FuncData
  F__law_told : Fun K "_law_told" "_law_told" s__law_told f__law_told fd__law_told
  g__law_told : mg "_law_told" = some (.ref f__law_told)
  b__law_told : Binds K fd__law_told ["_law_space_here", "_law_turn"] []
  f__law_marks : Addr
  fd__law_marks : FuncData
  F__law_marks : Fun K "_law_marks" "_law_marks" s__law_marks f__law_marks fd__law_marks
  g__law_marks : mg "_law_marks" = some (.ref f__law_marks)
  b__law_marks : Binds K fd__law_marks ["_law_space_here"] []
  f__law_agrees : Addr
  fd__law_agrees : FuncData
  F__law_agrees : Fun K "_law_agrees" "_law_agrees" s__law_agrees f__law_agrees fd__law_agrees
  g__law_agrees : mg "_law_agrees" = some (.ref f__law_agrees)
  b__law_agrees : Binds K fd__law_agrees ["_law_space_here", "_law_rows_here", "_law_words", "_law_turn"] []
  f__law_collected : Addr
  fd__law_collected : FuncData
  F__law_collected : Fun K "_law_collected" "_law_collected" s__law_collected f__law_collected fd__law_collected
  g__law_collected : mg "_law_collected" = some (.ref f__law_collected)
  b__law_collected : Binds K fd__law_collected ["_law_space_here", "_law_rows_here", "_law_words"] []
  f__law_changed : Addr
  fd__law_changed : FuncData
  F__law_changed : Fun K "_law_changed" "_law_changed" s__law_changed f__law_changed fd__law_changed
  g__law_changed : mg "_law_changed" = some (.ref f__law_changed)
  b__law_changed : Binds K fd__law_changed ["_law_space_here", "_law_rows_here", "_law_words", "_law_many", "_law_x"] []
  f__law_kept : Addr
  fd__law_kept : FuncData
  F__law_kept : Fun K "_law_kept" "_law_kept" s__law_kept f__law_kept fd__law_kept
  g__law_kept : mg "_law_kept" = some (.ref f__law_kept)
  b__law_kept : Binds K fd__law_kept ["_law_space_here", "_law_rows_here", "_law_words"] []
  f__law_chain : Addr
  fd__law_chain : FuncData
  F__law_chain : Fun K "_law_chain" "_law_chain" s__law_chain f__law_chain fd__law_chain
  g__law_chain : mg "_law_chain" = some (.ref f__law_chain)
  b__law_chain : Binds K fd__law_chain ["_law_count"] []
  f_law : Addr
  fd_law : FuncData
  F_law : Fun K "law" "law" s_law f_law fd_law
  g_law : mg "law" = some (.ref f_law)
  b_law : Binds K fd_law ["_law_script"] []
  g_collect_collecting : mg "collect_collecting" = some (.ref f_collect)
def mkW {l : PySem.W.OpenLaw} {K : PySem.W.Frag} {h : Heap} {mg : Str → Option Value} (X : K.In h) (G : h.Ns mainGlobals mg)
    {t_NIL : Tok}
    {t_HEADER : Tok}
    {t_ROOTS : Tok}
    {C_Store : Addr}
    {C_Space : Addr}
    {ocis_ref kVis_ref dcis_ref pmis_ref cdis_ref ctis_ref : Value} {odis_ref anis_ref : Option Addr} {slis_ref : Array (Option Value)} {fis_ref : Addr}
    {ocref_of kVref_of dcref_of pmref_of cdref_of ctref_of : Value} {odref_of anref_of : Option Addr} {slref_of : Array (Option Value)} {fref_of : Addr}
    {ocreached kVreached dcreached pmreached cdreached ctreached : Value} {odreached anreached : Option Addr} {slreached : Array (Option Value)} {freached : Addr}
    {ocwords_of kVwords_of dcwords_of pmwords_of cdwords_of ctwords_of : Value} {odwords_of anwords_of : Option Addr} {slwords_of : Array (Option Value)} {fwords_of : Addr}
    {occollect kVcollect dccollect pmcollect cdcollect ctcollect : Value} {odcollect ancollect : Option Addr} {slcollect : Array (Option Value)} {fcollect : Addr}
    {ocobject_of kVobject_of dcobject_of pmobject_of cdobject_of ctobject_of : Value} {odobject_of anobject_of : Option Addr} {slobject_of : Array (Option Value)} {fobject_of : Addr}
    {ocrow_of kVrow_of dcrow_of pmrow_of cdrow_of ctrow_of : Value} {odrow_of anrow_of : Option Addr} {slrow_of : Array (Option Value)} {frow_of : Addr}
    {ocpaths kVpaths dcpaths pmpaths cdpaths ctpaths : Value} {odpaths anpaths : Option Addr} {slpaths : Array (Option Value)} {fpaths : Addr}
    {oclinks_into kVlinks_into dclinks_into pmlinks_into cdlinks_into ctlinks_into : Value} {odlinks_into anlinks_into : Option Addr} {sllinks_into : Array (Option Value)} {flinks_into : Addr}
    {ocmeeting kVmeeting dcmeeting pmmeeting cdmeeting ctmeeting : Value} {odmeeting anmeeting : Option Addr} {slmeeting : Array (Option Value)} {fmeeting : Addr}
    {ocplaces_above kVplaces_above dcplaces_above pmplaces_above cdplaces_above ctplaces_above : Value} {odplaces_above anplaces_above : Option Addr} {slplaces_above : Array (Option Value)} {fplaces_above : Addr}
    {ocowners kVowners dcowners pmowners cdowners ctowners : Value} {odowners anowners : Option Addr} {slowners : Array (Option Value)} {fowners : Addr}
    {ocretained_words kVretained_words dcretained_words pmretained_words cdretained_words ctretained_words : Value} {odretained_words anretained_words : Option Addr} {slretained_words : Array (Option Value)} {fretained_words : Addr}
    {ocStore___init__ kVStore___init__ dcStore___init__ pmStore___init__ cdStore___init__ ctStore___init__ : Value} {odStore___init__ anStore___init__ : Option Addr} {slStore___init__ : Array (Option Value)} {fStore___init__ : Addr}
    {ocStore_exists kVStore_exists dcStore_exists pmStore_exists cdStore_exists ctStore_exists : Value} {odStore_exists anStore_exists : Option Addr} {slStore_exists : Array (Option Value)} {fStore_exists : Addr}
    {ocStore_numbers kVStore_numbers dcStore_numbers pmStore_numbers cdStore_numbers ctStore_numbers : Value} {odStore_numbers anStore_numbers : Option Addr} {slStore_numbers : Array (Option Value)} {fStore_numbers : Addr}
    {ocStore_free_number kVStore_free_number dcStore_free_number pmStore_free_number cdStore_free_number ctStore_free_number : Value} {odStore_free_number anStore_free_number : Option Addr} {slStore_free_number : Array (Option Value)} {fStore_free_number : Addr}
    {ocStore_allocate kVStore_allocate dcStore_allocate pmStore_allocate cdStore_allocate ctStore_allocate : Value} {odStore_allocate anStore_allocate : Option Addr} {slStore_allocate : Array (Option Value)} {fStore_allocate : Addr}
    {ocStore_size kVStore_size dcStore_size pmStore_size cdStore_size ctStore_size : Value} {odStore_size anStore_size : Option Addr} {slStore_size : Array (Option Value)} {fStore_size : Addr}
    {ocStore_kind kVStore_kind dcStore_kind pmStore_kind cdStore_kind ctStore_kind : Value} {odStore_kind anStore_kind : Option Addr} {slStore_kind : Array (Option Value)} {fStore_kind : Addr}
    {ocStore_set_kind kVStore_set_kind dcStore_set_kind pmStore_set_kind cdStore_set_kind ctStore_set_kind : Value} {odStore_set_kind anStore_set_kind : Option Addr} {slStore_set_kind : Array (Option Value)} {fStore_set_kind : Addr}
    {ocStore_put kVStore_put dcStore_put pmStore_put cdStore_put ctStore_put : Value} {odStore_put anStore_put : Option Addr} {slStore_put : Array (Option Value)} {fStore_put : Addr}
    {ocStore_slots kVStore_slots dcStore_slots pmStore_slots cdStore_slots ctStore_slots : Value} {odStore_slots anStore_slots : Option Addr} {slStore_slots : Array (Option Value)} {fStore_slots : Addr}
    {ocStore_drop kVStore_drop dcStore_drop pmStore_drop cdStore_drop ctStore_drop : Value} {odStore_drop anStore_drop : Option Addr} {slStore_drop : Array (Option Value)} {fStore_drop : Addr}
    {ocStore_close_up kVStore_close_up dcStore_close_up pmStore_close_up cdStore_close_up ctStore_close_up : Value} {odStore_close_up anStore_close_up : Option Addr} {slStore_close_up : Array (Option Value)} {fStore_close_up : Addr}
    {cAStore_close_up PTStore_close_up : Addr} {cclStore_close_up : Value} {cddStore_close_up : Option Addr} {vsStore_close_up : Array Value} {ccsStore_close_up : Array (Option Value)}
    {ocStore_exchange kVStore_exchange dcStore_exchange pmStore_exchange cdStore_exchange ctStore_exchange : Value} {odStore_exchange anStore_exchange : Option Addr} {slStore_exchange : Array (Option Value)} {fStore_exchange : Addr}
    {ocSpace___init__ kVSpace___init__ dcSpace___init__ pmSpace___init__ cdSpace___init__ ctSpace___init__ : Value} {odSpace___init__ anSpace___init__ : Option Addr} {slSpace___init__ : Array (Option Value)} {fSpace___init__ : Addr}
    {ocSpace_set_root kVSpace_set_root dcSpace_set_root pmSpace_set_root cdSpace_set_root ctSpace_set_root : Value} {odSpace_set_root anSpace_set_root : Option Addr} {slSpace_set_root : Array (Option Value)} {fSpace_set_root : Addr}
    {ocSpace_hold kVSpace_hold dcSpace_hold pmSpace_hold cdSpace_hold ctSpace_hold : Value} {odSpace_hold anSpace_hold : Option Addr} {slSpace_hold : Array (Option Value)} {fSpace_hold : Addr}
    {ocSpace_all_roots kVSpace_all_roots dcSpace_all_roots pmSpace_all_roots cdSpace_all_roots ctSpace_all_roots : Value} {odSpace_all_roots anSpace_all_roots : Option Addr} {slSpace_all_roots : Array (Option Value)} {fSpace_all_roots : Addr}
    {ocSpace_collect kVSpace_collect dcSpace_collect pmSpace_collect cdSpace_collect ctSpace_collect : Value} {odSpace_collect anSpace_collect : Option Addr} {slSpace_collect : Array (Option Value)} {fSpace_collect : Addr}
    {ocSpace_collect_with kVSpace_collect_with dcSpace_collect_with pmSpace_collect_with cdSpace_collect_with ctSpace_collect_with : Value} {odSpace_collect_with anSpace_collect_with : Option Addr} {slSpace_collect_with : Array (Option Value)} {fSpace_collect_with : Addr}
    {ocSpace_live_words kVSpace_live_words dcSpace_live_words pmSpace_live_words cdSpace_live_words ctSpace_live_words : Value} {odSpace_live_words anSpace_live_words : Option Addr} {slSpace_live_words : Array (Option Value)} {fSpace_live_words : Addr}
    {ocSpace_new kVSpace_new dcSpace_new pmSpace_new cdSpace_new ctSpace_new : Value} {odSpace_new anSpace_new : Option Addr} {slSpace_new : Array (Option Value)} {fSpace_new : Addr}
    {ocSpace_fitted kVSpace_fitted dcSpace_fitted pmSpace_fitted cdSpace_fitted ctSpace_fitted : Value} {odSpace_fitted anSpace_fitted : Option Addr} {slSpace_fitted : Array (Option Value)} {fSpace_fitted : Addr}
    {oc_law_number kV_law_number dc_law_number pm_law_number cd_law_number ct_law_number : Value} {od_law_number an_law_number : Option Addr} {sl_law_number : Array (Option Value)} {f_law_number : Addr}
    {oc_law_word kV_law_word dc_law_word pm_law_word cd_law_word ct_law_word : Value} {od_law_word an_law_word : Option Addr} {sl_law_word : Array (Option Value)} {f_law_word : Addr}
    {oc_law_is kV_law_is dc_law_is pm_law_is cd_law_is ct_law_is : Value} {od_law_is an_law_is : Option Addr} {sl_law_is : Array (Option Value)} {f_law_is : Addr}
    {oc_law_same kV_law_same dc_law_same pm_law_same cd_law_same ct_law_same : Value} {od_law_same an_law_same : Option Addr} {sl_law_same : Array (Option Value)} {f_law_same : Addr}
    {oc_law_sizes kV_law_sizes dc_law_sizes pm_law_sizes cd_law_sizes ct_law_sizes : Value} {od_law_sizes an_law_sizes : Option Addr} {sl_law_sizes : Array (Option Value)} {f_law_sizes : Addr}
    {oc_law_rows kV_law_rows dc_law_rows pm_law_rows cd_law_rows ct_law_rows : Value} {od_law_rows an_law_rows : Option Addr} {sl_law_rows : Array (Option Value)} {f_law_rows : Addr}
    {oc_law_roots kV_law_roots dc_law_roots pm_law_roots cd_law_roots ct_law_roots : Value} {od_law_roots an_law_roots : Option Addr} {sl_law_roots : Array (Option Value)} {f_law_roots : Addr}
    {oc_law_space kV_law_space dc_law_space pm_law_space cd_law_space ct_law_space : Value} {od_law_space an_law_space : Option Addr} {sl_law_space : Array (Option Value)} {f_law_space : Addr}
    {oc_law_reached kV_law_reached dc_law_reached pm_law_reached cd_law_reached ct_law_reached : Value} {od_law_reached an_law_reached : Option Addr} {sl_law_reached : Array (Option Value)} {f_law_reached : Addr}
    {oc_law_above kV_law_above dc_law_above pm_law_above cd_law_above ct_law_above : Value} {od_law_above an_law_above : Option Addr} {sl_law_above : Array (Option Value)} {f_law_above : Addr}
    {oc_law_owner kV_law_owner dc_law_owner pm_law_owner cd_law_owner ct_law_owner : Value} {od_law_owner an_law_owner : Option Addr} {sl_law_owner : Array (Option Value)} {f_law_owner : Addr}
    {oc_law_told kV_law_told dc_law_told pm_law_told cd_law_told ct_law_told : Value} {od_law_told an_law_told : Option Addr} {sl_law_told : Array (Option Value)} {f_law_told : Addr}
    {oc_law_marks kV_law_marks dc_law_marks pm_law_marks cd_law_marks ct_law_marks : Value} {od_law_marks an_law_marks : Option Addr} {sl_law_marks : Array (Option Value)} {f_law_marks : Addr}
    {oc_law_agrees kV_law_agrees dc_law_agrees pm_law_agrees cd_law_agrees ct_law_agrees : Value} {od_law_agrees an_law_agrees : Option Addr} {sl_law_agrees : Array (Option Value)} {f_law_agrees : Addr}
    {oc_law_collected kV_law_collected dc_law_collected pm_law_collected cd_law_collected ct_law_collected : Value} {od_law_collected an_law_collected : Option Addr} {sl_law_collected : Array (Option Value)} {f_law_collected : Addr}
    {oc_law_changed kV_law_changed dc_law_changed pm_law_changed cd_law_changed ct_law_changed : Value} {od_law_changed an_law_changed : Option Addr} {sl_law_changed : Array (Option Value)} {f_law_changed : Addr}
    {oc_law_kept kV_law_kept dc_law_kept pm_law_kept cd_law_kept ct_law_kept : Value} {od_law_kept an_law_kept : Option Addr} {sl_law_kept : Array (Option Value)} {f_law_kept : Addr}
    {oc_law_chain kV_law_chain dc_law_chain pm_law_chain cd_law_chain ct_law_chain : Value} {od_law_chain an_law_chain : Option Addr} {sl_law_chain : Array (Option Value)} {f_law_chain : Addr}
    {oclaw kVlaw dclaw pmlaw cdlaw ctlaw : Value} {odlaw anlaw : Option Addr} {sllaw : Array (Option Value)} {flaw : Addr}
    (z_bool : PySem.W.nsIn K mainGlobals "bool" = some none)
    (z_dict : PySem.W.nsIn K mainGlobals "dict" = some none)
    (z_int : PySem.W.nsIn K mainGlobals "int" = some none)
    (z_isinstance : PySem.W.nsIn K mainGlobals "isinstance" = some none)
    (z_len : PySem.W.nsIn K mainGlobals "len" = some none)
    (z_list : PySem.W.nsIn K mainGlobals "list" = some none)
    (z_min : PySem.W.nsIn K mainGlobals "min" = some none)
    (z_range : PySem.W.nsIn K mainGlobals "range" = some none)
    (z_reversed : PySem.W.nsIn K mainGlobals "reversed" = some none)
    (z_sorted : PySem.W.nsIn K mainGlobals "sorted" = some none)
    (z_sum : PySem.W.nsIn K mainGlobals "sum" = some none)
    (c_NIL : PySem.W.nsIn K mainGlobals "NIL" = some (some (.int (0) t_NIL)))
    (c_HEADER : PySem.W.nsIn K mainGlobals "HEADER" = some (some (.int (3) t_HEADER)))
    (c_ROOTS : PySem.W.nsIn K mainGlobals "ROOTS" = some (some (.int (16) t_ROOTS)))
    (cl_Store : PySem.W.nsIn K mainGlobals "Store" = some (some (.ref C_Store)))
    (pg_Store : PySem.W.plainGet K C_Store Str.empty = true)
    (hd_Store : PySem.W.hasDictIn K C_Store = true)
    (po_Store : PySem.W.plainOver K C_Store = true)
    (sa_Store : PySem.W.findIn K (.ref C_Store) "__setattr__" = some (some (.builtin "object.__setattr__")))
    (mk_Store : PySem.W.makesIn K C_Store = true)
    (kp_Store : PySem.W.keepIn K (.ref C_Store) = true)
    (na_Store_room : PySem.W.findIn K (.ref C_Store) "room" = some none)
    (na_Store_entries : PySem.W.findIn K (.ref C_Store) "entries" = some none)
    (na_Store_words : PySem.W.findIn K (.ref C_Store) "words" = some none)
    (na_Store__places : PySem.W.findIn K (.ref C_Store) "_places" = some none)
    (na_Store__least : PySem.W.findIn K (.ref C_Store) "_least" = some none)
    (cl_Space : PySem.W.nsIn K mainGlobals "Space" = some (some (.ref C_Space)))
    (pg_Space : PySem.W.plainGet K C_Space Str.empty = true)
    (hd_Space : PySem.W.hasDictIn K C_Space = true)
    (po_Space : PySem.W.plainOver K C_Space = true)
    (sa_Space : PySem.W.findIn K (.ref C_Space) "__setattr__" = some (some (.builtin "object.__setattr__")))
    (mk_Space : PySem.W.makesIn K C_Space = true)
    (kp_Space : PySem.W.keepIn K (.ref C_Space) = true)
    (na_Space_store : PySem.W.findIn K (.ref C_Space) "store" = some none)
    (na_Space_pressure : PySem.W.findIn K (.ref C_Space) "pressure" = some none)
    (na_Space_always : PySem.W.findIn K (.ref C_Space) "always" = some none)
    (na_Space_allocations : PySem.W.findIn K (.ref C_Space) "allocations" = some none)
    (na_Space_collections : PySem.W.findIn K (.ref C_Space) "collections" = some none)
    (na_Space__roots : PySem.W.findIn K (.ref C_Space) "_roots" = some none)
    (na_Space__held : PySem.W.findIn K (.ref C_Space) "_held" = some none)
    (na_Space__saved : PySem.W.findIn K (.ref C_Space) "_saved" = some none)
    (a_is_ref : PySem.W.nsIn K mainGlobals "is_ref" = some (some (.ref fis_ref)))
    (l_is_ref : K.lookup fis_ref = some ⟨ocis_ref, odis_ref, .func (PySem.W.fnOf "is_ref" "is_ref" (defArgs s_is_ref) (defBody s_is_ref) (defScope s_is_ref) .none kVis_ref dcis_ref pmis_ref anis_ref cdis_ref ctis_ref), slis_ref⟩)
    (c_is_ref : PySem.W.codeIn K cdis_ref "is_ref" = true)
    (k_is_ref : PySem.W.keepIn K (.ref fis_ref) = true)
    (a_ref_of : PySem.W.nsIn K mainGlobals "ref_of" = some (some (.ref fref_of)))
    (l_ref_of : K.lookup fref_of = some ⟨ocref_of, odref_of, .func (PySem.W.fnOf "ref_of" "ref_of" (defArgs s_ref_of) (defBody s_ref_of) (defScope s_ref_of) .none kVref_of dcref_of pmref_of anref_of cdref_of ctref_of), slref_of⟩)
    (c_ref_of : PySem.W.codeIn K cdref_of "ref_of" = true)
    (k_ref_of : PySem.W.keepIn K (.ref fref_of) = true)
    (a_reached : PySem.W.nsIn K mainGlobals "reached" = some (some (.ref freached)))
    (l_reached : K.lookup freached = some ⟨ocreached, odreached, .func (PySem.W.fnOf "reached" "reached" (defArgs s_reached) (defBody s_reached) (defScope s_reached) .none kVreached dcreached pmreached anreached cdreached ctreached), slreached⟩)
    (c_reached : PySem.W.codeIn K cdreached "reached" = true)
    (k_reached : PySem.W.keepIn K (.ref freached) = true)
    (a_words_of : PySem.W.nsIn K mainGlobals "words_of" = some (some (.ref fwords_of)))
    (l_words_of : K.lookup fwords_of = some ⟨ocwords_of, odwords_of, .func (PySem.W.fnOf "words_of" "words_of" (defArgs s_words_of) (defBody s_words_of) (defScope s_words_of) .none kVwords_of dcwords_of pmwords_of anwords_of cdwords_of ctwords_of), slwords_of⟩)
    (c_words_of : PySem.W.codeIn K cdwords_of "words_of" = true)
    (k_words_of : PySem.W.keepIn K (.ref fwords_of) = true)
    (a_collect : PySem.W.nsIn K mainGlobals "collect" = some (some (.ref fcollect)))
    (l_collect : K.lookup fcollect = some ⟨occollect, odcollect, .func (PySem.W.fnOf "collect" "collect" (defArgs s_collect) (defBody s_collect) (defScope s_collect) .none kVcollect dccollect pmcollect ancollect cdcollect ctcollect), slcollect⟩)
    (c_collect : PySem.W.codeIn K cdcollect "collect" = true)
    (k_collect : PySem.W.keepIn K (.ref fcollect) = true)
    (a_object_of : PySem.W.nsIn K mainGlobals "object_of" = some (some (.ref fobject_of)))
    (l_object_of : K.lookup fobject_of = some ⟨ocobject_of, odobject_of, .func (PySem.W.fnOf "object_of" "object_of" (defArgs s_object_of) (defBody s_object_of) (defScope s_object_of) .none kVobject_of dcobject_of pmobject_of anobject_of cdobject_of ctobject_of), slobject_of⟩)
    (c_object_of : PySem.W.codeIn K cdobject_of "object_of" = true)
    (k_object_of : PySem.W.keepIn K (.ref fobject_of) = true)
    (a_row_of : PySem.W.nsIn K mainGlobals "row_of" = some (some (.ref frow_of)))
    (l_row_of : K.lookup frow_of = some ⟨ocrow_of, odrow_of, .func (PySem.W.fnOf "row_of" "row_of" (defArgs s_row_of) (defBody s_row_of) (defScope s_row_of) .none kVrow_of dcrow_of pmrow_of anrow_of cdrow_of ctrow_of), slrow_of⟩)
    (c_row_of : PySem.W.codeIn K cdrow_of "row_of" = true)
    (k_row_of : PySem.W.keepIn K (.ref frow_of) = true)
    (a_paths : PySem.W.nsIn K mainGlobals "paths" = some (some (.ref fpaths)))
    (l_paths : K.lookup fpaths = some ⟨ocpaths, odpaths, .func (PySem.W.fnOf "paths" "paths" (defArgs s_paths) (defBody s_paths) (defScope s_paths) .none kVpaths dcpaths pmpaths anpaths cdpaths ctpaths), slpaths⟩)
    (c_paths : PySem.W.codeIn K cdpaths "paths" = true)
    (k_paths : PySem.W.keepIn K (.ref fpaths) = true)
    (a_links_into : PySem.W.nsIn K mainGlobals "links_into" = some (some (.ref flinks_into)))
    (l_links_into : K.lookup flinks_into = some ⟨oclinks_into, odlinks_into, .func (PySem.W.fnOf "links_into" "links_into" (defArgs s_links_into) (defBody s_links_into) (defScope s_links_into) .none kVlinks_into dclinks_into pmlinks_into anlinks_into cdlinks_into ctlinks_into), sllinks_into⟩)
    (c_links_into : PySem.W.codeIn K cdlinks_into "links_into" = true)
    (k_links_into : PySem.W.keepIn K (.ref flinks_into) = true)
    (a_meeting : PySem.W.nsIn K mainGlobals "meeting" = some (some (.ref fmeeting)))
    (l_meeting : K.lookup fmeeting = some ⟨ocmeeting, odmeeting, .func (PySem.W.fnOf "meeting" "meeting" (defArgs s_meeting) (defBody s_meeting) (defScope s_meeting) .none kVmeeting dcmeeting pmmeeting anmeeting cdmeeting ctmeeting), slmeeting⟩)
    (c_meeting : PySem.W.codeIn K cdmeeting "meeting" = true)
    (k_meeting : PySem.W.keepIn K (.ref fmeeting) = true)
    (a_places_above : PySem.W.nsIn K mainGlobals "places_above" = some (some (.ref fplaces_above)))
    (l_places_above : K.lookup fplaces_above = some ⟨ocplaces_above, odplaces_above, .func (PySem.W.fnOf "places_above" "places_above" (defArgs s_places_above) (defBody s_places_above) (defScope s_places_above) .none kVplaces_above dcplaces_above pmplaces_above anplaces_above cdplaces_above ctplaces_above), slplaces_above⟩)
    (c_places_above : PySem.W.codeIn K cdplaces_above "places_above" = true)
    (k_places_above : PySem.W.keepIn K (.ref fplaces_above) = true)
    (a_owners : PySem.W.nsIn K mainGlobals "owners" = some (some (.ref fowners)))
    (l_owners : K.lookup fowners = some ⟨ocowners, odowners, .func (PySem.W.fnOf "owners" "owners" (defArgs s_owners) (defBody s_owners) (defScope s_owners) .none kVowners dcowners pmowners anowners cdowners ctowners), slowners⟩)
    (c_owners : PySem.W.codeIn K cdowners "owners" = true)
    (k_owners : PySem.W.keepIn K (.ref fowners) = true)
    (a_retained_words : PySem.W.nsIn K mainGlobals "retained_words" = some (some (.ref fretained_words)))
    (l_retained_words : K.lookup fretained_words = some ⟨ocretained_words, odretained_words, .func (PySem.W.fnOf "retained_words" "retained_words" (defArgs s_retained_words) (defBody s_retained_words) (defScope s_retained_words) .none kVretained_words dcretained_words pmretained_words anretained_words cdretained_words ctretained_words), slretained_words⟩)
    (c_retained_words : PySem.W.codeIn K cdretained_words "retained_words" = true)
    (k_retained_words : PySem.W.keepIn K (.ref fretained_words) = true)
    (a_Store___init__ : PySem.W.findIn K (.ref C_Store) "__init__" = some (some (.ref fStore___init__)))
    (l_Store___init__ : K.lookup fStore___init__ = some ⟨ocStore___init__, odStore___init__, .func (PySem.W.fnOf "__init__" "Store.__init__" (defArgs s_Store___init__) (defBody s_Store___init__) (defScope s_Store___init__) .none kVStore___init__ dcStore___init__ pmStore___init__ anStore___init__ cdStore___init__ ctStore___init__), slStore___init__⟩)
    (c_Store___init__ : PySem.W.codeIn K cdStore___init__ "Store.__init__" = true)
    (k_Store___init__ : PySem.W.keepIn K (.ref fStore___init__) = true)
    (fn_Store___init__ : PySem.W.isFn K (.ref fStore___init__) = true)
    (a_Store_exists : PySem.W.findIn K (.ref C_Store) "exists" = some (some (.ref fStore_exists)))
    (l_Store_exists : K.lookup fStore_exists = some ⟨ocStore_exists, odStore_exists, .func (PySem.W.fnOf "exists" "Store.exists" (defArgs s_Store_exists) (defBody s_Store_exists) (defScope s_Store_exists) .none kVStore_exists dcStore_exists pmStore_exists anStore_exists cdStore_exists ctStore_exists), slStore_exists⟩)
    (c_Store_exists : PySem.W.codeIn K cdStore_exists "Store.exists" = true)
    (k_Store_exists : PySem.W.keepIn K (.ref fStore_exists) = true)
    (fn_Store_exists : PySem.W.isFn K (.ref fStore_exists) = true)
    (a_Store_numbers : PySem.W.findIn K (.ref C_Store) "numbers" = some (some (.ref fStore_numbers)))
    (l_Store_numbers : K.lookup fStore_numbers = some ⟨ocStore_numbers, odStore_numbers, .func (PySem.W.fnOf "numbers" "Store.numbers" (defArgs s_Store_numbers) (defBody s_Store_numbers) (defScope s_Store_numbers) .none kVStore_numbers dcStore_numbers pmStore_numbers anStore_numbers cdStore_numbers ctStore_numbers), slStore_numbers⟩)
    (c_Store_numbers : PySem.W.codeIn K cdStore_numbers "Store.numbers" = true)
    (k_Store_numbers : PySem.W.keepIn K (.ref fStore_numbers) = true)
    (fn_Store_numbers : PySem.W.isFn K (.ref fStore_numbers) = true)
    (a_Store_free_number : PySem.W.findIn K (.ref C_Store) "free_number" = some (some (.ref fStore_free_number)))
    (l_Store_free_number : K.lookup fStore_free_number = some ⟨ocStore_free_number, odStore_free_number, .func (PySem.W.fnOf "free_number" "Store.free_number" (defArgs s_Store_free_number) (defBody s_Store_free_number) (defScope s_Store_free_number) .none kVStore_free_number dcStore_free_number pmStore_free_number anStore_free_number cdStore_free_number ctStore_free_number), slStore_free_number⟩)
    (c_Store_free_number : PySem.W.codeIn K cdStore_free_number "Store.free_number" = true)
    (k_Store_free_number : PySem.W.keepIn K (.ref fStore_free_number) = true)
    (fn_Store_free_number : PySem.W.isFn K (.ref fStore_free_number) = true)
    (a_Store_allocate : PySem.W.findIn K (.ref C_Store) "allocate" = some (some (.ref fStore_allocate)))
    (l_Store_allocate : K.lookup fStore_allocate = some ⟨ocStore_allocate, odStore_allocate, .func (PySem.W.fnOf "allocate" "Store.allocate" (defArgs s_Store_allocate) (defBody s_Store_allocate) (defScope s_Store_allocate) .none kVStore_allocate dcStore_allocate pmStore_allocate anStore_allocate cdStore_allocate ctStore_allocate), slStore_allocate⟩)
    (c_Store_allocate : PySem.W.codeIn K cdStore_allocate "Store.allocate" = true)
    (k_Store_allocate : PySem.W.keepIn K (.ref fStore_allocate) = true)
    (fn_Store_allocate : PySem.W.isFn K (.ref fStore_allocate) = true)
    (a_Store_size : PySem.W.findIn K (.ref C_Store) "size" = some (some (.ref fStore_size)))
    (l_Store_size : K.lookup fStore_size = some ⟨ocStore_size, odStore_size, .func (PySem.W.fnOf "size" "Store.size" (defArgs s_Store_size) (defBody s_Store_size) (defScope s_Store_size) .none kVStore_size dcStore_size pmStore_size anStore_size cdStore_size ctStore_size), slStore_size⟩)
    (c_Store_size : PySem.W.codeIn K cdStore_size "Store.size" = true)
    (k_Store_size : PySem.W.keepIn K (.ref fStore_size) = true)
    (fn_Store_size : PySem.W.isFn K (.ref fStore_size) = true)
    (a_Store_kind : PySem.W.findIn K (.ref C_Store) "kind" = some (some (.ref fStore_kind)))
    (l_Store_kind : K.lookup fStore_kind = some ⟨ocStore_kind, odStore_kind, .func (PySem.W.fnOf "kind" "Store.kind" (defArgs s_Store_kind) (defBody s_Store_kind) (defScope s_Store_kind) .none kVStore_kind dcStore_kind pmStore_kind anStore_kind cdStore_kind ctStore_kind), slStore_kind⟩)
    (c_Store_kind : PySem.W.codeIn K cdStore_kind "Store.kind" = true)
    (k_Store_kind : PySem.W.keepIn K (.ref fStore_kind) = true)
    (fn_Store_kind : PySem.W.isFn K (.ref fStore_kind) = true)
    (a_Store_set_kind : PySem.W.findIn K (.ref C_Store) "set_kind" = some (some (.ref fStore_set_kind)))
    (l_Store_set_kind : K.lookup fStore_set_kind = some ⟨ocStore_set_kind, odStore_set_kind, .func (PySem.W.fnOf "set_kind" "Store.set_kind" (defArgs s_Store_set_kind) (defBody s_Store_set_kind) (defScope s_Store_set_kind) .none kVStore_set_kind dcStore_set_kind pmStore_set_kind anStore_set_kind cdStore_set_kind ctStore_set_kind), slStore_set_kind⟩)
    (c_Store_set_kind : PySem.W.codeIn K cdStore_set_kind "Store.set_kind" = true)
    (k_Store_set_kind : PySem.W.keepIn K (.ref fStore_set_kind) = true)
    (fn_Store_set_kind : PySem.W.isFn K (.ref fStore_set_kind) = true)
    (a_Store_put : PySem.W.findIn K (.ref C_Store) "put" = some (some (.ref fStore_put)))
    (l_Store_put : K.lookup fStore_put = some ⟨ocStore_put, odStore_put, .func (PySem.W.fnOf "put" "Store.put" (defArgs s_Store_put) (defBody s_Store_put) (defScope s_Store_put) .none kVStore_put dcStore_put pmStore_put anStore_put cdStore_put ctStore_put), slStore_put⟩)
    (c_Store_put : PySem.W.codeIn K cdStore_put "Store.put" = true)
    (k_Store_put : PySem.W.keepIn K (.ref fStore_put) = true)
    (fn_Store_put : PySem.W.isFn K (.ref fStore_put) = true)
    (a_Store_slots : PySem.W.findIn K (.ref C_Store) "slots" = some (some (.ref fStore_slots)))
    (l_Store_slots : K.lookup fStore_slots = some ⟨ocStore_slots, odStore_slots, .func (PySem.W.fnOf "slots" "Store.slots" (defArgs s_Store_slots) (defBody s_Store_slots) (defScope s_Store_slots) .none kVStore_slots dcStore_slots pmStore_slots anStore_slots cdStore_slots ctStore_slots), slStore_slots⟩)
    (c_Store_slots : PySem.W.codeIn K cdStore_slots "Store.slots" = true)
    (k_Store_slots : PySem.W.keepIn K (.ref fStore_slots) = true)
    (fn_Store_slots : PySem.W.isFn K (.ref fStore_slots) = true)
    (a_Store_drop : PySem.W.findIn K (.ref C_Store) "drop" = some (some (.ref fStore_drop)))
    (l_Store_drop : K.lookup fStore_drop = some ⟨ocStore_drop, odStore_drop, .func (PySem.W.fnOf "drop" "Store.drop" (defArgs s_Store_drop) (defBody s_Store_drop) (defScope s_Store_drop) .none kVStore_drop dcStore_drop pmStore_drop anStore_drop cdStore_drop ctStore_drop), slStore_drop⟩)
    (c_Store_drop : PySem.W.codeIn K cdStore_drop "Store.drop" = true)
    (k_Store_drop : PySem.W.keepIn K (.ref fStore_drop) = true)
    (fn_Store_drop : PySem.W.isFn K (.ref fStore_drop) = true)
    (a_Store_close_up : PySem.W.findIn K (.ref C_Store) "close_up" = some (some (.ref fStore_close_up)))
    (l_Store_close_up : K.lookup fStore_close_up = some ⟨ocStore_close_up, odStore_close_up, .func (PySem.W.fnOf "close_up" "Store.close_up" (defArgs s_Store_close_up) (defBody s_Store_close_up) (defScope s_Store_close_up) .none kVStore_close_up dcStore_close_up pmStore_close_up anStore_close_up (.ref cAStore_close_up) ctStore_close_up), slStore_close_up⟩)
    (c_Store_close_up : PySem.W.codeIn K (.ref cAStore_close_up) "Store.close_up" = true)
    (k_Store_close_up : PySem.W.keepIn K (.ref fStore_close_up) = true)
    (x1_Store_close_up : K.lookup cAStore_close_up = some ⟨cclStore_close_up, cddStore_close_up, .fields vsStore_close_up, ccsStore_close_up⟩)
    (x2_Store_close_up : vsStore_close_up[11]? = some (.ref PTStore_close_up))
    (x3_Store_close_up : PySem.W.codeHdIn K cAStore_close_up PTStore_close_up = true)
    (x4_Store_close_up : K.lookup PTStore_close_up = none)
    (fn_Store_close_up : PySem.W.isFn K (.ref fStore_close_up) = true)
    (a_Store_exchange : PySem.W.findIn K (.ref C_Store) "exchange" = some (some (.ref fStore_exchange)))
    (l_Store_exchange : K.lookup fStore_exchange = some ⟨ocStore_exchange, odStore_exchange, .func (PySem.W.fnOf "exchange" "Store.exchange" (defArgs s_Store_exchange) (defBody s_Store_exchange) (defScope s_Store_exchange) .none kVStore_exchange dcStore_exchange pmStore_exchange anStore_exchange cdStore_exchange ctStore_exchange), slStore_exchange⟩)
    (c_Store_exchange : PySem.W.codeIn K cdStore_exchange "Store.exchange" = true)
    (k_Store_exchange : PySem.W.keepIn K (.ref fStore_exchange) = true)
    (fn_Store_exchange : PySem.W.isFn K (.ref fStore_exchange) = true)
    (a_Space___init__ : PySem.W.findIn K (.ref C_Space) "__init__" = some (some (.ref fSpace___init__)))
    (l_Space___init__ : K.lookup fSpace___init__ = some ⟨ocSpace___init__, odSpace___init__, .func (PySem.W.fnOf "__init__" "Space.__init__" (defArgs s_Space___init__) (defBody s_Space___init__) (defScope s_Space___init__) .none kVSpace___init__ dcSpace___init__ pmSpace___init__ anSpace___init__ cdSpace___init__ ctSpace___init__), slSpace___init__⟩)
    (c_Space___init__ : PySem.W.codeIn K cdSpace___init__ "Space.__init__" = true)
    (k_Space___init__ : PySem.W.keepIn K (.ref fSpace___init__) = true)
    (fn_Space___init__ : PySem.W.isFn K (.ref fSpace___init__) = true)
    (a_Space_set_root : PySem.W.findIn K (.ref C_Space) "set_root" = some (some (.ref fSpace_set_root)))
    (l_Space_set_root : K.lookup fSpace_set_root = some ⟨ocSpace_set_root, odSpace_set_root, .func (PySem.W.fnOf "set_root" "Space.set_root" (defArgs s_Space_set_root) (defBody s_Space_set_root) (defScope s_Space_set_root) .none kVSpace_set_root dcSpace_set_root pmSpace_set_root anSpace_set_root cdSpace_set_root ctSpace_set_root), slSpace_set_root⟩)
    (c_Space_set_root : PySem.W.codeIn K cdSpace_set_root "Space.set_root" = true)
    (k_Space_set_root : PySem.W.keepIn K (.ref fSpace_set_root) = true)
    (fn_Space_set_root : PySem.W.isFn K (.ref fSpace_set_root) = true)
    (a_Space_hold : PySem.W.findIn K (.ref C_Space) "hold" = some (some (.ref fSpace_hold)))
    (l_Space_hold : K.lookup fSpace_hold = some ⟨ocSpace_hold, odSpace_hold, .func (PySem.W.fnOf "hold" "Space.hold" (defArgs s_Space_hold) (defBody s_Space_hold) (defScope s_Space_hold) .none kVSpace_hold dcSpace_hold pmSpace_hold anSpace_hold cdSpace_hold ctSpace_hold), slSpace_hold⟩)
    (c_Space_hold : PySem.W.codeIn K cdSpace_hold "Space.hold" = true)
    (k_Space_hold : PySem.W.keepIn K (.ref fSpace_hold) = true)
    (fn_Space_hold : PySem.W.isFn K (.ref fSpace_hold) = true)
    (a_Space_all_roots : PySem.W.findIn K (.ref C_Space) "all_roots" = some (some (.ref fSpace_all_roots)))
    (l_Space_all_roots : K.lookup fSpace_all_roots = some ⟨ocSpace_all_roots, odSpace_all_roots, .func (PySem.W.fnOf "all_roots" "Space.all_roots" (defArgs s_Space_all_roots) (defBody s_Space_all_roots) (defScope s_Space_all_roots) .none kVSpace_all_roots dcSpace_all_roots pmSpace_all_roots anSpace_all_roots cdSpace_all_roots ctSpace_all_roots), slSpace_all_roots⟩)
    (c_Space_all_roots : PySem.W.codeIn K cdSpace_all_roots "Space.all_roots" = true)
    (k_Space_all_roots : PySem.W.keepIn K (.ref fSpace_all_roots) = true)
    (fn_Space_all_roots : PySem.W.isFn K (.ref fSpace_all_roots) = true)
    (a_Space_collect : PySem.W.findIn K (.ref C_Space) "collect" = some (some (.ref fSpace_collect)))
    (l_Space_collect : K.lookup fSpace_collect = some ⟨ocSpace_collect, odSpace_collect, .func (PySem.W.fnOf "collect" "Space.collect" (defArgs s_Space_collect) (defBody s_Space_collect) (defScope s_Space_collect) .none kVSpace_collect dcSpace_collect pmSpace_collect anSpace_collect cdSpace_collect ctSpace_collect), slSpace_collect⟩)
    (c_Space_collect : PySem.W.codeIn K cdSpace_collect "Space.collect" = true)
    (k_Space_collect : PySem.W.keepIn K (.ref fSpace_collect) = true)
    (fn_Space_collect : PySem.W.isFn K (.ref fSpace_collect) = true)
    (a_Space_collect_with : PySem.W.findIn K (.ref C_Space) "collect_with" = some (some (.ref fSpace_collect_with)))
    (l_Space_collect_with : K.lookup fSpace_collect_with = some ⟨ocSpace_collect_with, odSpace_collect_with, .func (PySem.W.fnOf "collect_with" "Space.collect_with" (defArgs s_Space_collect_with) (defBody s_Space_collect_with) (defScope s_Space_collect_with) .none kVSpace_collect_with dcSpace_collect_with pmSpace_collect_with anSpace_collect_with cdSpace_collect_with ctSpace_collect_with), slSpace_collect_with⟩)
    (c_Space_collect_with : PySem.W.codeIn K cdSpace_collect_with "Space.collect_with" = true)
    (k_Space_collect_with : PySem.W.keepIn K (.ref fSpace_collect_with) = true)
    (fn_Space_collect_with : PySem.W.isFn K (.ref fSpace_collect_with) = true)
    (a_Space_live_words : PySem.W.findIn K (.ref C_Space) "live_words" = some (some (.ref fSpace_live_words)))
    (l_Space_live_words : K.lookup fSpace_live_words = some ⟨ocSpace_live_words, odSpace_live_words, .func (PySem.W.fnOf "live_words" "Space.live_words" (defArgs s_Space_live_words) (defBody s_Space_live_words) (defScope s_Space_live_words) .none kVSpace_live_words dcSpace_live_words pmSpace_live_words anSpace_live_words cdSpace_live_words ctSpace_live_words), slSpace_live_words⟩)
    (c_Space_live_words : PySem.W.codeIn K cdSpace_live_words "Space.live_words" = true)
    (k_Space_live_words : PySem.W.keepIn K (.ref fSpace_live_words) = true)
    (fn_Space_live_words : PySem.W.isFn K (.ref fSpace_live_words) = true)
    (a_Space_new : PySem.W.findIn K (.ref C_Space) "new" = some (some (.ref fSpace_new)))
    (l_Space_new : K.lookup fSpace_new = some ⟨ocSpace_new, odSpace_new, .func (PySem.W.fnOf "new" "Space.new" (defArgs s_Space_new) (defBody s_Space_new) (defScope s_Space_new) .none kVSpace_new dcSpace_new pmSpace_new anSpace_new cdSpace_new ctSpace_new), slSpace_new⟩)
    (c_Space_new : PySem.W.codeIn K cdSpace_new "Space.new" = true)
    (k_Space_new : PySem.W.keepIn K (.ref fSpace_new) = true)
    (fn_Space_new : PySem.W.isFn K (.ref fSpace_new) = true)
    (a_Space_fitted : PySem.W.findIn K (.ref C_Space) "fitted" = some (some (.ref fSpace_fitted)))
    (l_Space_fitted : K.lookup fSpace_fitted = some ⟨ocSpace_fitted, odSpace_fitted, .func (PySem.W.fnOf "fitted" "Space.fitted" (defArgs s_Space_fitted) (defBody s_Space_fitted) (defScope s_Space_fitted) .none kVSpace_fitted dcSpace_fitted pmSpace_fitted anSpace_fitted cdSpace_fitted ctSpace_fitted), slSpace_fitted⟩)
    (c_Space_fitted : PySem.W.codeIn K cdSpace_fitted "Space.fitted" = true)
    (k_Space_fitted : PySem.W.keepIn K (.ref fSpace_fitted) = true)
    (fn_Space_fitted : PySem.W.isFn K (.ref fSpace_fitted) = true)
    (a__law_number : PySem.W.nsIn K mainGlobals "_law_number" = some (some (.ref f_law_number)))
    (l__law_number : K.lookup f_law_number = some ⟨oc_law_number, od_law_number, .func (PySem.W.fnOf "_law_number" "_law_number" (defArgs s__law_number) (defBody s__law_number) (defScope s__law_number) .none kV_law_number dc_law_number pm_law_number an_law_number cd_law_number ct_law_number), sl_law_number⟩)
    (c__law_number : PySem.W.codeIn K cd_law_number "_law_number" = true)
    (k__law_number : PySem.W.keepIn K (.ref f_law_number) = true)
    (a__law_word : PySem.W.nsIn K mainGlobals "_law_word" = some (some (.ref f_law_word)))
    (l__law_word : K.lookup f_law_word = some ⟨oc_law_word, od_law_word, .func (PySem.W.fnOf "_law_word" "_law_word" (defArgs s__law_word) (defBody s__law_word) (defScope s__law_word) .none kV_law_word dc_law_word pm_law_word an_law_word cd_law_word ct_law_word), sl_law_word⟩)
    (c__law_word : PySem.W.codeIn K cd_law_word "_law_word" = true)
    (k__law_word : PySem.W.keepIn K (.ref f_law_word) = true)
    (a__law_is : PySem.W.nsIn K mainGlobals "_law_is" = some (some (.ref f_law_is)))
    (l__law_is : K.lookup f_law_is = some ⟨oc_law_is, od_law_is, .func (PySem.W.fnOf "_law_is" "_law_is" (defArgs s__law_is) (defBody s__law_is) (defScope s__law_is) .none kV_law_is dc_law_is pm_law_is an_law_is cd_law_is ct_law_is), sl_law_is⟩)
    (c__law_is : PySem.W.codeIn K cd_law_is "_law_is" = true)
    (k__law_is : PySem.W.keepIn K (.ref f_law_is) = true)
    (a__law_same : PySem.W.nsIn K mainGlobals "_law_same" = some (some (.ref f_law_same)))
    (l__law_same : K.lookup f_law_same = some ⟨oc_law_same, od_law_same, .func (PySem.W.fnOf "_law_same" "_law_same" (defArgs s__law_same) (defBody s__law_same) (defScope s__law_same) .none kV_law_same dc_law_same pm_law_same an_law_same cd_law_same ct_law_same), sl_law_same⟩)
    (c__law_same : PySem.W.codeIn K cd_law_same "_law_same" = true)
    (k__law_same : PySem.W.keepIn K (.ref f_law_same) = true)
    (a__law_sizes : PySem.W.nsIn K mainGlobals "_law_sizes" = some (some (.ref f_law_sizes)))
    (l__law_sizes : K.lookup f_law_sizes = some ⟨oc_law_sizes, od_law_sizes, .func (PySem.W.fnOf "_law_sizes" "_law_sizes" (defArgs s__law_sizes) (defBody s__law_sizes) (defScope s__law_sizes) .none kV_law_sizes dc_law_sizes pm_law_sizes an_law_sizes cd_law_sizes ct_law_sizes), sl_law_sizes⟩)
    (c__law_sizes : PySem.W.codeIn K cd_law_sizes "_law_sizes" = true)
    (k__law_sizes : PySem.W.keepIn K (.ref f_law_sizes) = true)
    (a__law_rows : PySem.W.nsIn K mainGlobals "_law_rows" = some (some (.ref f_law_rows)))
    (l__law_rows : K.lookup f_law_rows = some ⟨oc_law_rows, od_law_rows, .func (PySem.W.fnOf "_law_rows" "_law_rows" (defArgs s__law_rows) (defBody s__law_rows) (defScope s__law_rows) .none kV_law_rows dc_law_rows pm_law_rows an_law_rows cd_law_rows ct_law_rows), sl_law_rows⟩)
    (c__law_rows : PySem.W.codeIn K cd_law_rows "_law_rows" = true)
    (k__law_rows : PySem.W.keepIn K (.ref f_law_rows) = true)
    (a__law_roots : PySem.W.nsIn K mainGlobals "_law_roots" = some (some (.ref f_law_roots)))
    (l__law_roots : K.lookup f_law_roots = some ⟨oc_law_roots, od_law_roots, .func (PySem.W.fnOf "_law_roots" "_law_roots" (defArgs s__law_roots) (defBody s__law_roots) (defScope s__law_roots) .none kV_law_roots dc_law_roots pm_law_roots an_law_roots cd_law_roots ct_law_roots), sl_law_roots⟩)
    (c__law_roots : PySem.W.codeIn K cd_law_roots "_law_roots" = true)
    (k__law_roots : PySem.W.keepIn K (.ref f_law_roots) = true)
    (a__law_space : PySem.W.nsIn K mainGlobals "_law_space" = some (some (.ref f_law_space)))
    (l__law_space : K.lookup f_law_space = some ⟨oc_law_space, od_law_space, .func (PySem.W.fnOf "_law_space" "_law_space" (defArgs s__law_space) (defBody s__law_space) (defScope s__law_space) .none kV_law_space dc_law_space pm_law_space an_law_space cd_law_space ct_law_space), sl_law_space⟩)
    (c__law_space : PySem.W.codeIn K cd_law_space "_law_space" = true)
    (k__law_space : PySem.W.keepIn K (.ref f_law_space) = true)
    (a__law_reached : PySem.W.nsIn K mainGlobals "_law_reached" = some (some (.ref f_law_reached)))
    (l__law_reached : K.lookup f_law_reached = some ⟨oc_law_reached, od_law_reached, .func (PySem.W.fnOf "_law_reached" "_law_reached" (defArgs s__law_reached) (defBody s__law_reached) (defScope s__law_reached) .none kV_law_reached dc_law_reached pm_law_reached an_law_reached cd_law_reached ct_law_reached), sl_law_reached⟩)
    (c__law_reached : PySem.W.codeIn K cd_law_reached "_law_reached" = true)
    (k__law_reached : PySem.W.keepIn K (.ref f_law_reached) = true)
    (a__law_above : PySem.W.nsIn K mainGlobals "_law_above" = some (some (.ref f_law_above)))
    (l__law_above : K.lookup f_law_above = some ⟨oc_law_above, od_law_above, .func (PySem.W.fnOf "_law_above" "_law_above" (defArgs s__law_above) (defBody s__law_above) (defScope s__law_above) .none kV_law_above dc_law_above pm_law_above an_law_above cd_law_above ct_law_above), sl_law_above⟩)
    (c__law_above : PySem.W.codeIn K cd_law_above "_law_above" = true)
    (k__law_above : PySem.W.keepIn K (.ref f_law_above) = true)
    (a__law_owner : PySem.W.nsIn K mainGlobals "_law_owner" = some (some (.ref f_law_owner)))
    (l__law_owner : K.lookup f_law_owner = some ⟨oc_law_owner, od_law_owner, .func (PySem.W.fnOf "_law_owner" "_law_owner" (defArgs s__law_owner) (defBody s__law_owner) (defScope s__law_owner) .none kV_law_owner dc_law_owner pm_law_owner an_law_owner cd_law_owner ct_law_owner), sl_law_owner⟩)
    (c__law_owner : PySem.W.codeIn K cd_law_owner "_law_owner" = true)
    (k__law_owner : PySem.W.keepIn K (.ref f_law_owner) = true)
    (a__law_told : PySem.W.nsIn K mainGlobals "_law_told" = some (some (.ref f_law_told)))
    (l__law_told : K.lookup f_law_told = some ⟨oc_law_told, od_law_told, .func (PySem.W.fnOf "_law_told" "_law_told" (defArgs s__law_told) (defBody s__law_told) (defScope s__law_told) .none kV_law_told dc_law_told pm_law_told an_law_told cd_law_told ct_law_told), sl_law_told⟩)
    (c__law_told : PySem.W.codeIn K cd_law_told "_law_told" = true)
    (k__law_told : PySem.W.keepIn K (.ref f_law_told) = true)
    (a__law_marks : PySem.W.nsIn K mainGlobals "_law_marks" = some (some (.ref f_law_marks)))
    (l__law_marks : K.lookup f_law_marks = some ⟨oc_law_marks, od_law_marks, .func (PySem.W.fnOf "_law_marks" "_law_marks" (defArgs s__law_marks) (defBody s__law_marks) (defScope s__law_marks) .none kV_law_marks dc_law_marks pm_law_marks an_law_marks cd_law_marks ct_law_marks), sl_law_marks⟩)
    (c__law_marks : PySem.W.codeIn K cd_law_marks "_law_marks" = true)
    (k__law_marks : PySem.W.keepIn K (.ref f_law_marks) = true)
    (a__law_agrees : PySem.W.nsIn K mainGlobals "_law_agrees" = some (some (.ref f_law_agrees)))
    (l__law_agrees : K.lookup f_law_agrees = some ⟨oc_law_agrees, od_law_agrees, .func (PySem.W.fnOf "_law_agrees" "_law_agrees" (defArgs s__law_agrees) (defBody s__law_agrees) (defScope s__law_agrees) .none kV_law_agrees dc_law_agrees pm_law_agrees an_law_agrees cd_law_agrees ct_law_agrees), sl_law_agrees⟩)
    (c__law_agrees : PySem.W.codeIn K cd_law_agrees "_law_agrees" = true)
    (k__law_agrees : PySem.W.keepIn K (.ref f_law_agrees) = true)
    (a__law_collected : PySem.W.nsIn K mainGlobals "_law_collected" = some (some (.ref f_law_collected)))
    (l__law_collected : K.lookup f_law_collected = some ⟨oc_law_collected, od_law_collected, .func (PySem.W.fnOf "_law_collected" "_law_collected" (defArgs s__law_collected) (defBody s__law_collected) (defScope s__law_collected) .none kV_law_collected dc_law_collected pm_law_collected an_law_collected cd_law_collected ct_law_collected), sl_law_collected⟩)
    (c__law_collected : PySem.W.codeIn K cd_law_collected "_law_collected" = true)
    (k__law_collected : PySem.W.keepIn K (.ref f_law_collected) = true)
    (a__law_changed : PySem.W.nsIn K mainGlobals "_law_changed" = some (some (.ref f_law_changed)))
    (l__law_changed : K.lookup f_law_changed = some ⟨oc_law_changed, od_law_changed, .func (PySem.W.fnOf "_law_changed" "_law_changed" (defArgs s__law_changed) (defBody s__law_changed) (defScope s__law_changed) .none kV_law_changed dc_law_changed pm_law_changed an_law_changed cd_law_changed ct_law_changed), sl_law_changed⟩)
    (c__law_changed : PySem.W.codeIn K cd_law_changed "_law_changed" = true)
    (k__law_changed : PySem.W.keepIn K (.ref f_law_changed) = true)
    (a__law_kept : PySem.W.nsIn K mainGlobals "_law_kept" = some (some (.ref f_law_kept)))
    (l__law_kept : K.lookup f_law_kept = some ⟨oc_law_kept, od_law_kept, .func (PySem.W.fnOf "_law_kept" "_law_kept" (defArgs s__law_kept) (defBody s__law_kept) (defScope s__law_kept) .none kV_law_kept dc_law_kept pm_law_kept an_law_kept cd_law_kept ct_law_kept), sl_law_kept⟩)
    (c__law_kept : PySem.W.codeIn K cd_law_kept "_law_kept" = true)
    (k__law_kept : PySem.W.keepIn K (.ref f_law_kept) = true)
    (a__law_chain : PySem.W.nsIn K mainGlobals "_law_chain" = some (some (.ref f_law_chain)))
    (l__law_chain : K.lookup f_law_chain = some ⟨oc_law_chain, od_law_chain, .func (PySem.W.fnOf "_law_chain" "_law_chain" (defArgs s__law_chain) (defBody s__law_chain) (defScope s__law_chain) .none kV_law_chain dc_law_chain pm_law_chain an_law_chain cd_law_chain ct_law_chain), sl_law_chain⟩)
    (c__law_chain : PySem.W.codeIn K cd_law_chain "_law_chain" = true)
    (k__law_chain : PySem.W.keepIn K (.ref f_law_chain) = true)
    (a_law : PySem.W.nsIn K mainGlobals "law" = some (some (.ref flaw)))
    (l_law : K.lookup flaw = some ⟨oclaw, odlaw, .func (PySem.W.fnOf "law" "law" (defArgs s_law) (defBody s_law) (defScope s_law) .none kVlaw dclaw pmlaw anlaw cdlaw ctlaw), sllaw⟩)
    (c_law : PySem.W.codeIn K cdlaw "law" = true)
    (k_law : PySem.W.keepIn K (.ref flaw) = true)
    (al_collect_collecting : PySem.W.nsIn K mainGlobals "collect_collecting" = some (some (.ref fcollect))) : Wd l.prog K mg :=
  { n_bool := PySem.W.mg_none_of X G z_bool,
    n_dict := PySem.W.mg_none_of X G z_dict,
    n_int := PySem.W.mg_none_of X G z_int,
    n_isinstance := PySem.W.mg_none_of X G z_isinstance,
    n_len := PySem.W.mg_none_of X G z_len,
    n_list := PySem.W.mg_none_of X G z_list,
    n_min := PySem.W.mg_none_of X G z_min,
    n_range := PySem.W.mg_none_of X G z_range,
    n_reversed := PySem.W.mg_none_of X G z_reversed,
    n_sorted := PySem.W.mg_none_of X G z_sorted,
    n_sum := PySem.W.mg_none_of X G z_sum,
    t_NIL := t_NIL, g_NIL := PySem.W.mg_of X G c_NIL,
    t_HEADER := t_HEADER, g_HEADER := PySem.W.mg_of X G c_HEADER,
    t_ROOTS := t_ROOTS, g_ROOTS := PySem.W.mg_of X G c_ROOTS,
    c_Store := C_Store, g_Store := PySem.W.mg_of X G cl_Store,
    C_Store := ⟨pg_Store, hd_Store, po_Store, sa_Store⟩,
    na_Store_room := na_Store_room,
    na_Store_entries := na_Store_entries,
    na_Store_words := na_Store_words,
    na_Store__places := na_Store__places,
    na_Store__least := na_Store__least,
    c_Space := C_Space, g_Space := PySem.W.mg_of X G cl_Space,
    C_Space := ⟨pg_Space, hd_Space, po_Space, sa_Space⟩,
    na_Space_store := na_Space_store,
    na_Space_pressure := na_Space_pressure,
    na_Space_always := na_Space_always,
    na_Space_allocations := na_Space_allocations,
    na_Space_collections := na_Space_collections,
    na_Space__roots := na_Space__roots,
    na_Space__held := na_Space__held,
    na_Space__saved := na_Space__saved,
    f_is_ref := fis_ref, fd_is_ref := _, F_is_ref := fun_mk (st := s_is_ref) l_is_ref c_is_ref k_is_ref,
    g_is_ref := PySem.W.mg_of X G a_is_ref,
    b_is_ref := (fun_mk (st := s_is_ref) l_is_ref c_is_ref k_is_ref).binds (ps := ["word"]) fun _ _ _ _ _ _ us hl => match us, hl with | [_], _ => rfl,
    f_ref_of := fref_of, fd_ref_of := _, F_ref_of := fun_mk (st := s_ref_of) l_ref_of c_ref_of k_ref_of,
    g_ref_of := PySem.W.mg_of X G a_ref_of,
    b_ref_of := (fun_mk (st := s_ref_of) l_ref_of c_ref_of k_ref_of).binds (ps := ["word"]) fun _ _ _ _ _ _ us hl => match us, hl with | [_], _ => rfl,
    f_reached := freached, fd_reached := _, F_reached := fun_mk (st := s_reached) l_reached c_reached k_reached,
    g_reached := PySem.W.mg_of X G a_reached,
    b_reached := (fun_mk (st := s_reached) l_reached c_reached k_reached).binds (ps := ["store", "roots"]) fun _ _ _ _ _ _ us hl => match us, hl with | [_, _], _ => rfl,
    f_words_of := fwords_of, fd_words_of := _, F_words_of := fun_mk (st := s_words_of) l_words_of c_words_of k_words_of,
    g_words_of := PySem.W.mg_of X G a_words_of,
    b_words_of := (fun_mk (st := s_words_of) l_words_of c_words_of k_words_of).binds (ps := ["store", "numbers"]) fun _ _ _ _ _ _ us hl => match us, hl with | [_, _], _ => rfl,
    f_collect := fcollect, fd_collect := _, F_collect := fun_mk (st := s_collect) l_collect c_collect k_collect,
    g_collect := PySem.W.mg_of X G a_collect,
    b_collect := (fun_mk (st := s_collect) l_collect c_collect k_collect).binds (ps := ["store", "roots"]) fun _ _ _ _ _ _ us hl => match us, hl with | [_, _], _ => rfl,
    f_object_of := fobject_of, fd_object_of := _, F_object_of := fun_mk (st := s_object_of) l_object_of c_object_of k_object_of,
    g_object_of := PySem.W.mg_of X G a_object_of,
    b_object_of := (fun_mk (st := s_object_of) l_object_of c_object_of k_object_of).binds (ps := ["space", "word"]) fun _ _ _ _ _ _ us hl => match us, hl with | [_, _], _ => rfl,
    f_row_of := frow_of, fd_row_of := _, F_row_of := fun_mk (st := s_row_of) l_row_of c_row_of k_row_of,
    g_row_of := PySem.W.mg_of X G a_row_of,
    b_row_of := (fun_mk (st := s_row_of) l_row_of c_row_of k_row_of).binds (ps := ["space", "number"]) fun _ _ _ _ _ _ us hl => match us, hl with | [_, _], _ => rfl,
    f_paths := fpaths, fd_paths := _, F_paths := fun_mk (st := s_paths) l_paths c_paths k_paths,
    g_paths := PySem.W.mg_of X G a_paths,
    b_paths := (fun_mk (st := s_paths) l_paths c_paths k_paths).binds (ps := ["space"]) fun _ _ _ _ _ _ us hl => match us, hl with | [_], _ => rfl,
    f_links_into := flinks_into, fd_links_into := _, F_links_into := fun_mk (st := s_links_into) l_links_into c_links_into k_links_into,
    g_links_into := PySem.W.mg_of X G a_links_into,
    b_links_into := (fun_mk (st := s_links_into) l_links_into c_links_into k_links_into).binds (ps := ["space", "order"]) fun _ _ _ _ _ _ us hl => match us, hl with | [_, _], _ => rfl,
    f_meeting := fmeeting, fd_meeting := _, F_meeting := fun_mk (st := s_meeting) l_meeting c_meeting k_meeting,
    g_meeting := PySem.W.mg_of X G a_meeting,
    b_meeting := (fun_mk (st := s_meeting) l_meeting c_meeting k_meeting).binds (ps := ["above", "one", "other"]) fun _ _ _ _ _ _ us hl => match us, hl with | [_, _, _], _ => rfl,
    f_places_above := fplaces_above, fd_places_above := _, F_places_above := fun_mk (st := s_places_above) l_places_above c_places_above k_places_above,
    g_places_above := PySem.W.mg_of X G a_places_above,
    b_places_above := (fun_mk (st := s_places_above) l_places_above c_places_above k_places_above).binds (ps := ["links"]) fun _ _ _ _ _ _ us hl => match us, hl with | [_], _ => rfl,
    f_owners := fowners, fd_owners := _, F_owners := fun_mk (st := s_owners) l_owners c_owners k_owners,
    g_owners := PySem.W.mg_of X G a_owners,
    b_owners := (fun_mk (st := s_owners) l_owners c_owners k_owners).binds (ps := ["space"]) fun _ _ _ _ _ _ us hl => match us, hl with | [_], _ => rfl,
    f_retained_words := fretained_words, fd_retained_words := _, F_retained_words := fun_mk (st := s_retained_words) l_retained_words c_retained_words k_retained_words,
    g_retained_words := PySem.W.mg_of X G a_retained_words,
    b_retained_words := (fun_mk (st := s_retained_words) l_retained_words c_retained_words k_retained_words).binds (ps := ["space"]) fun _ _ _ _ _ _ us hl => match us, hl with | [_], _ => rfl,
    f_Store___init__ := fStore___init__, fd_Store___init__ := _, F_Store___init__ := fun_mk (st := s_Store___init__) l_Store___init__ c_Store___init__ k_Store___init__,
    M_Store := ⟨mk_Store, a_Store___init__, fn_Store___init__, kp_Store⟩,
    b_Store___init__ := (fun_mk (st := s_Store___init__) l_Store___init__ c_Store___init__ k_Store___init__).binds (ps := ["self", "room", "entries"]) fun _ _ _ _ _ _ us hl => match us, hl with | [_, _, _], _ => rfl,
    f_Store_exists := fStore_exists, fd_Store_exists := _, F_Store_exists := fun_mk (st := s_Store_exists) l_Store_exists c_Store_exists k_Store_exists,
    m_Store_exists := ⟨a_Store_exists, fn_Store_exists, k_Store_exists⟩,
    b_Store_exists := (fun_mk (st := s_Store_exists) l_Store_exists c_Store_exists k_Store_exists).binds (ps := ["self", "number"]) fun _ _ _ _ _ _ us hl => match us, hl with | [_, _], _ => rfl,
    f_Store_numbers := fStore_numbers, fd_Store_numbers := _, F_Store_numbers := fun_mk (st := s_Store_numbers) l_Store_numbers c_Store_numbers k_Store_numbers,
    m_Store_numbers := ⟨a_Store_numbers, fn_Store_numbers, k_Store_numbers⟩,
    b_Store_numbers := (fun_mk (st := s_Store_numbers) l_Store_numbers c_Store_numbers k_Store_numbers).binds (ps := ["self"]) fun _ _ _ _ _ _ us hl => match us, hl with | [_], _ => rfl,
    f_Store_free_number := fStore_free_number, fd_Store_free_number := _, F_Store_free_number := fun_mk (st := s_Store_free_number) l_Store_free_number c_Store_free_number k_Store_free_number,
    m_Store_free_number := ⟨a_Store_free_number, fn_Store_free_number, k_Store_free_number⟩,
    b_Store_free_number := (fun_mk (st := s_Store_free_number) l_Store_free_number c_Store_free_number k_Store_free_number).binds (ps := ["self"]) fun _ _ _ _ _ _ us hl => match us, hl with | [_], _ => rfl,
    f_Store_allocate := fStore_allocate, fd_Store_allocate := _, F_Store_allocate := fun_mk (st := s_Store_allocate) l_Store_allocate c_Store_allocate k_Store_allocate,
    m_Store_allocate := ⟨a_Store_allocate, fn_Store_allocate, k_Store_allocate⟩,
    b_Store_allocate := (fun_mk (st := s_Store_allocate) l_Store_allocate c_Store_allocate k_Store_allocate).binds (ps := ["self", "kind", "size"]) fun _ _ _ _ _ _ us hl => match us, hl with | [_, _, _], _ => rfl,
    f_Store_size := fStore_size, fd_Store_size := _, F_Store_size := fun_mk (st := s_Store_size) l_Store_size c_Store_size k_Store_size,
    m_Store_size := ⟨a_Store_size, fn_Store_size, k_Store_size⟩,
    b_Store_size := (fun_mk (st := s_Store_size) l_Store_size c_Store_size k_Store_size).binds (ps := ["self", "number"]) fun _ _ _ _ _ _ us hl => match us, hl with | [_, _], _ => rfl,
    f_Store_kind := fStore_kind, fd_Store_kind := _, F_Store_kind := fun_mk (st := s_Store_kind) l_Store_kind c_Store_kind k_Store_kind,
    m_Store_kind := ⟨a_Store_kind, fn_Store_kind, k_Store_kind⟩,
    b_Store_kind := (fun_mk (st := s_Store_kind) l_Store_kind c_Store_kind k_Store_kind).binds (ps := ["self", "number"]) fun _ _ _ _ _ _ us hl => match us, hl with | [_, _], _ => rfl,
    f_Store_set_kind := fStore_set_kind, fd_Store_set_kind := _, F_Store_set_kind := fun_mk (st := s_Store_set_kind) l_Store_set_kind c_Store_set_kind k_Store_set_kind,
    m_Store_set_kind := ⟨a_Store_set_kind, fn_Store_set_kind, k_Store_set_kind⟩,
    b_Store_set_kind := (fun_mk (st := s_Store_set_kind) l_Store_set_kind c_Store_set_kind k_Store_set_kind).binds (ps := ["self", "number", "word"]) fun _ _ _ _ _ _ us hl => match us, hl with | [_, _, _], _ => rfl,
    f_Store_put := fStore_put, fd_Store_put := _, F_Store_put := fun_mk (st := s_Store_put) l_Store_put c_Store_put k_Store_put,
    m_Store_put := ⟨a_Store_put, fn_Store_put, k_Store_put⟩,
    b_Store_put := (fun_mk (st := s_Store_put) l_Store_put c_Store_put k_Store_put).binds (ps := ["self", "number", "at", "word"]) fun _ _ _ _ _ _ us hl => match us, hl with | [_, _, _, _], _ => rfl,
    f_Store_slots := fStore_slots, fd_Store_slots := _, F_Store_slots := fun_mk (st := s_Store_slots) l_Store_slots c_Store_slots k_Store_slots,
    m_Store_slots := ⟨a_Store_slots, fn_Store_slots, k_Store_slots⟩,
    b_Store_slots := (fun_mk (st := s_Store_slots) l_Store_slots c_Store_slots k_Store_slots).binds (ps := ["self", "number"]) fun _ _ _ _ _ _ us hl => match us, hl with | [_, _], _ => rfl,
    f_Store_drop := fStore_drop, fd_Store_drop := _, F_Store_drop := fun_mk (st := s_Store_drop) l_Store_drop c_Store_drop k_Store_drop,
    m_Store_drop := ⟨a_Store_drop, fn_Store_drop, k_Store_drop⟩,
    b_Store_drop := (fun_mk (st := s_Store_drop) l_Store_drop c_Store_drop k_Store_drop).binds (ps := ["self", "number"]) fun _ _ _ _ _ _ us hl => match us, hl with | [_, _], _ => rfl,
    f_Store_close_up := fStore_close_up, fd_Store_close_up := _, F_Store_close_up := fun_mk (st := s_Store_close_up) l_Store_close_up c_Store_close_up k_Store_close_up, cA_Store_close_up := cAStore_close_up, PT_Store_close_up := PTStore_close_up, hd_Store_close_up := x3_Store_close_up, np_Store_close_up := x4_Store_close_up, G_Store_close_up := ⟨_, _, _, _, _, _, _, _, rfl, l_Store_close_up, c_Store_close_up⟩,
    m_Store_close_up := ⟨a_Store_close_up, fn_Store_close_up, k_Store_close_up⟩,
    b_Store_close_up := (fun_mk (st := s_Store_close_up) l_Store_close_up c_Store_close_up k_Store_close_up).binds (ps := ["self"]) fun _ _ _ _ _ _ us hl => match us, hl with | [_], _ => rfl,
    f_Store_exchange := fStore_exchange, fd_Store_exchange := _, F_Store_exchange := fun_mk (st := s_Store_exchange) l_Store_exchange c_Store_exchange k_Store_exchange,
    m_Store_exchange := ⟨a_Store_exchange, fn_Store_exchange, k_Store_exchange⟩,
    b_Store_exchange := (fun_mk (st := s_Store_exchange) l_Store_exchange c_Store_exchange k_Store_exchange).binds (ps := ["self", "first", "second"]) fun _ _ _ _ _ _ us hl => match us, hl with | [_, _, _], _ => rfl,
    f_Space___init__ := fSpace___init__, fd_Space___init__ := _, F_Space___init__ := fun_mk (st := s_Space___init__) l_Space___init__ c_Space___init__ k_Space___init__,
    M_Space := ⟨mk_Space, a_Space___init__, fn_Space___init__, kp_Space⟩,
    b_Space___init__ := (fun_mk (st := s_Space___init__) l_Space___init__ c_Space___init__ k_Space___init__).binds (ps := ["self", "room", "entries"]) fun _ _ _ _ _ _ us hl => match us, hl with | [_, _, _], _ => rfl,
    f_Space_set_root := fSpace_set_root, fd_Space_set_root := _, F_Space_set_root := fun_mk (st := s_Space_set_root) l_Space_set_root c_Space_set_root k_Space_set_root,
    m_Space_set_root := ⟨a_Space_set_root, fn_Space_set_root, k_Space_set_root⟩,
    b_Space_set_root := (fun_mk (st := s_Space_set_root) l_Space_set_root c_Space_set_root k_Space_set_root).binds (ps := ["self", "k", "word"]) fun _ _ _ _ _ _ us hl => match us, hl with | [_, _, _], _ => rfl,
    f_Space_hold := fSpace_hold, fd_Space_hold := _, F_Space_hold := fun_mk (st := s_Space_hold) l_Space_hold c_Space_hold k_Space_hold,
    m_Space_hold := ⟨a_Space_hold, fn_Space_hold, k_Space_hold⟩,
    b_Space_hold := (fun_mk (st := s_Space_hold) l_Space_hold c_Space_hold k_Space_hold).binds (ps := ["self", "word"]) fun _ _ _ _ _ _ us hl => match us, hl with | [_, _], _ => rfl,
    f_Space_all_roots := fSpace_all_roots, fd_Space_all_roots := _, F_Space_all_roots := fun_mk (st := s_Space_all_roots) l_Space_all_roots c_Space_all_roots k_Space_all_roots,
    m_Space_all_roots := ⟨a_Space_all_roots, fn_Space_all_roots, k_Space_all_roots⟩,
    b_Space_all_roots := (fun_mk (st := s_Space_all_roots) l_Space_all_roots c_Space_all_roots k_Space_all_roots).binds (ps := ["self"]) fun _ _ _ _ _ _ us hl => match us, hl with | [_], _ => rfl,
    f_Space_collect := fSpace_collect, fd_Space_collect := _, F_Space_collect := fun_mk (st := s_Space_collect) l_Space_collect c_Space_collect k_Space_collect,
    m_Space_collect := ⟨a_Space_collect, fn_Space_collect, k_Space_collect⟩,
    b_Space_collect := (fun_mk (st := s_Space_collect) l_Space_collect c_Space_collect k_Space_collect).binds (ps := ["self"]) fun _ _ _ _ _ _ us hl => match us, hl with | [_], _ => rfl,
    f_Space_collect_with := fSpace_collect_with, fd_Space_collect_with := _, F_Space_collect_with := fun_mk (st := s_Space_collect_with) l_Space_collect_with c_Space_collect_with k_Space_collect_with,
    m_Space_collect_with := ⟨a_Space_collect_with, fn_Space_collect_with, k_Space_collect_with⟩,
    b_Space_collect_with := (fun_mk (st := s_Space_collect_with) l_Space_collect_with c_Space_collect_with k_Space_collect_with).binds (ps := ["self", "word"]) fun _ _ _ _ _ _ us hl => match us, hl with | [_, _], _ => rfl,
    f_Space_live_words := fSpace_live_words, fd_Space_live_words := _, F_Space_live_words := fun_mk (st := s_Space_live_words) l_Space_live_words c_Space_live_words k_Space_live_words,
    m_Space_live_words := ⟨a_Space_live_words, fn_Space_live_words, k_Space_live_words⟩,
    b_Space_live_words := (fun_mk (st := s_Space_live_words) l_Space_live_words c_Space_live_words k_Space_live_words).binds (ps := ["self"]) fun _ _ _ _ _ _ us hl => match us, hl with | [_], _ => rfl,
    f_Space_new := fSpace_new, fd_Space_new := _, F_Space_new := fun_mk (st := s_Space_new) l_Space_new c_Space_new k_Space_new,
    m_Space_new := ⟨a_Space_new, fn_Space_new, k_Space_new⟩,
    b_Space_new := (fun_mk (st := s_Space_new) l_Space_new c_Space_new k_Space_new).binds (ps := ["self", "kind", "size"]) fun _ _ _ _ _ _ us hl => match us, hl with | [_, _, _], _ => rfl,
    f_Space_fitted := fSpace_fitted, fd_Space_fitted := _, F_Space_fitted := fun_mk (st := s_Space_fitted) l_Space_fitted c_Space_fitted k_Space_fitted,
    m_Space_fitted := ⟨a_Space_fitted, fn_Space_fitted, k_Space_fitted⟩,
    b_Space_fitted := (fun_mk (st := s_Space_fitted) l_Space_fitted c_Space_fitted k_Space_fitted).binds (ps := ["self", "kind", "size"]) fun _ _ _ _ _ _ us hl => match us, hl with | [_, _, _], _ => rfl,
    f__law_number := f_law_number, fd__law_number := _, F__law_number := fun_mk (st := s__law_number) l__law_number c__law_number k__law_number,
    g__law_number := PySem.W.mg_of X G a__law_number,
    b__law_number := (fun_mk (st := s__law_number) l__law_number c__law_number k__law_number).binds (ps := ["_law_cell", "_law_k"]) fun _ _ _ _ _ _ us hl => match us, hl with | [_, _], _ => rfl,
    f__law_word := f_law_word, fd__law_word := _, F__law_word := fun_mk (st := s__law_word) l__law_word c__law_word k__law_word,
    g__law_word := PySem.W.mg_of X G a__law_word,
    b__law_word := (fun_mk (st := s__law_word) l__law_word c__law_word k__law_word).binds (ps := ["_law_x", "_law_many"]) fun _ _ _ _ _ _ us hl => match us, hl with | [_, _], _ => rfl,
    f__law_is := f_law_is, fd__law_is := _, F__law_is := fun_mk (st := s__law_is) l__law_is c__law_is k__law_is,
    g__law_is := PySem.W.mg_of X G a__law_is,
    b__law_is := (fun_mk (st := s__law_is) l__law_is c__law_is k__law_is).binds (ps := ["_law_actual", "_law_due"]) fun _ _ _ _ _ _ us hl => match us, hl with | [_, _], _ => rfl,
    f__law_same := f_law_same, fd__law_same := _, F__law_same := fun_mk (st := s__law_same) l__law_same c__law_same k__law_same,
    g__law_same := PySem.W.mg_of X G a__law_same,
    b__law_same := (fun_mk (st := s__law_same) l__law_same c__law_same k__law_same).binds (ps := ["_law_actual", "_law_due"]) fun _ _ _ _ _ _ us hl => match us, hl with | [_, _], _ => rfl,
    f__law_sizes := f_law_sizes, fd__law_sizes := _, F__law_sizes := fun_mk (st := s__law_sizes) l__law_sizes c__law_sizes k__law_sizes,
    g__law_sizes := PySem.W.mg_of X G a__law_sizes,
    b__law_sizes := (fun_mk (st := s__law_sizes) l__law_sizes c__law_sizes k__law_sizes).binds (ps := ["_law_x"]) fun _ _ _ _ _ _ us hl => match us, hl with | [_], _ => rfl,
    f__law_rows := f_law_rows, fd__law_rows := _, F__law_rows := fun_mk (st := s__law_rows) l__law_rows c__law_rows k__law_rows,
    g__law_rows := PySem.W.mg_of X G a__law_rows,
    b__law_rows := (fun_mk (st := s__law_rows) l__law_rows c__law_rows k__law_rows).binds (ps := ["_law_sizes_here", "_law_x"]) fun _ _ _ _ _ _ us hl => match us, hl with | [_, _], _ => rfl,
    f__law_roots := f_law_roots, fd__law_roots := _, F__law_roots := fun_mk (st := s__law_roots) l__law_roots c__law_roots k__law_roots,
    g__law_roots := PySem.W.mg_of X G a__law_roots,
    b__law_roots := (fun_mk (st := s__law_roots) l__law_roots c__law_roots k__law_roots).binds (ps := ["_law_many", "_law_x"]) fun _ _ _ _ _ _ us hl => match us, hl with | [_, _], _ => rfl,
    f__law_space := f_law_space, fd__law_space := _, F__law_space := fun_mk (st := s__law_space) l__law_space c__law_space k__law_space,
    g__law_space := PySem.W.mg_of X G a__law_space,
    b__law_space := (fun_mk (st := s__law_space) l__law_space c__law_space k__law_space).binds (ps := ["_law_rows_here", "_law_words"]) fun _ _ _ _ _ _ us hl => match us, hl with | [_, _], _ => rfl,
    f__law_reached := f_law_reached, fd__law_reached := _, F__law_reached := fun_mk (st := s__law_reached) l__law_reached c__law_reached k__law_reached,
    g__law_reached := PySem.W.mg_of X G a__law_reached,
    b__law_reached := (fun_mk (st := s__law_reached) l__law_reached c__law_reached k__law_reached).binds (ps := ["_law_rows_here", "_law_words", "_law_left_out"]) fun _ _ _ _ _ _ us hl => match us, hl with | [_, _, _], _ => rfl,
    f__law_above := f_law_above, fd__law_above := _, F__law_above := fun_mk (st := s__law_above) l__law_above c__law_above k__law_above,
    g__law_above := PySem.W.mg_of X G a__law_above,
    b__law_above := (fun_mk (st := s__law_above) l__law_above c__law_above k__law_above).binds (ps := ["_law_rows_here", "_law_words"]) fun _ _ _ _ _ _ us hl => match us, hl with | [_, _], _ => rfl,
    f__law_owner := f_law_owner, fd__law_owner := _, F__law_owner := fun_mk (st := s__law_owner) l__law_owner c__law_owner k__law_owner,
    g__law_owner := PySem.W.mg_of X G a__law_owner,
    b__law_owner := (fun_mk (st := s__law_owner) l__law_owner c__law_owner k__law_owner).binds (ps := ["_law_above_here", "_law_number_here"]) fun _ _ _ _ _ _ us hl => match us, hl with | [_, _], _ => rfl,
    f__law_told := f_law_told, fd__law_told := _, F__law_told := fun_mk (st := s__law_told) l__law_told c__law_told k__law_told,
    g__law_told := PySem.W.mg_of X G a__law_told,
    b__law_told := (fun_mk (st := s__law_told) l__law_told c__law_told k__law_told).binds (ps := ["_law_space_here", "_law_turn"]) fun _ _ _ _ _ _ us hl => match us, hl with | [_, _], _ => rfl,
    f__law_marks := f_law_marks, fd__law_marks := _, F__law_marks := fun_mk (st := s__law_marks) l__law_marks c__law_marks k__law_marks,
    g__law_marks := PySem.W.mg_of X G a__law_marks,
    b__law_marks := (fun_mk (st := s__law_marks) l__law_marks c__law_marks k__law_marks).binds (ps := ["_law_space_here"]) fun _ _ _ _ _ _ us hl => match us, hl with | [_], _ => rfl,
    f__law_agrees := f_law_agrees, fd__law_agrees := _, F__law_agrees := fun_mk (st := s__law_agrees) l__law_agrees c__law_agrees k__law_agrees,
    g__law_agrees := PySem.W.mg_of X G a__law_agrees,
    b__law_agrees := (fun_mk (st := s__law_agrees) l__law_agrees c__law_agrees k__law_agrees).binds (ps := ["_law_space_here", "_law_rows_here", "_law_words", "_law_turn"]) fun _ _ _ _ _ _ us hl => match us, hl with | [_, _, _, _], _ => rfl,
    f__law_collected := f_law_collected, fd__law_collected := _, F__law_collected := fun_mk (st := s__law_collected) l__law_collected c__law_collected k__law_collected,
    g__law_collected := PySem.W.mg_of X G a__law_collected,
    b__law_collected := (fun_mk (st := s__law_collected) l__law_collected c__law_collected k__law_collected).binds (ps := ["_law_space_here", "_law_rows_here", "_law_words"]) fun _ _ _ _ _ _ us hl => match us, hl with | [_, _, _], _ => rfl,
    f__law_changed := f_law_changed, fd__law_changed := _, F__law_changed := fun_mk (st := s__law_changed) l__law_changed c__law_changed k__law_changed,
    g__law_changed := PySem.W.mg_of X G a__law_changed,
    b__law_changed := (fun_mk (st := s__law_changed) l__law_changed c__law_changed k__law_changed).binds (ps := ["_law_space_here", "_law_rows_here", "_law_words", "_law_many", "_law_x"]) fun _ _ _ _ _ _ us hl => match us, hl with | [_, _, _, _, _], _ => rfl,
    f__law_kept := f_law_kept, fd__law_kept := _, F__law_kept := fun_mk (st := s__law_kept) l__law_kept c__law_kept k__law_kept,
    g__law_kept := PySem.W.mg_of X G a__law_kept,
    b__law_kept := (fun_mk (st := s__law_kept) l__law_kept c__law_kept k__law_kept).binds (ps := ["_law_space_here", "_law_rows_here", "_law_words"]) fun _ _ _ _ _ _ us hl => match us, hl with | [_, _, _], _ => rfl,
    f__law_chain := f_law_chain, fd__law_chain := _, F__law_chain := fun_mk (st := s__law_chain) l__law_chain c__law_chain k__law_chain,
    g__law_chain := PySem.W.mg_of X G a__law_chain,
    b__law_chain := (fun_mk (st := s__law_chain) l__law_chain c__law_chain k__law_chain).binds (ps := ["_law_count"]) fun _ _ _ _ _ _ us hl => match us, hl with | [_], _ => rfl,
    f_law := flaw, fd_law := _, F_law := fun_mk (st := s_law) l_law c_law k_law,
    g_law := PySem.W.mg_of X G a_law,
    b_law := (fun_mk (st := s_law) l_law c_law k_law).binds (ps := ["_law_script"]) fun _ _ _ _ _ _ us hl => match us, hl with | [_], _ => rfl,
    g_collect_collecting := PySem.W.mg_of X G al_collect_collecting }

structure WT (P : Program) (K : PySem.W.Frag) (mg : Str → Option Value) (base : Heap) extends Wd P K mg where
  TB : LamX.TabB base mg cA_Store_close_up PT_Store_close_up
abbrev qLam : Str := (envOfC "Store.close_up" (defScope s_Store_close_up) 0 0 .none).qual ++ "<lambda>"
section
variable {P : Program} {w : World} {K : PySem.W.Frag} {mg : Str → Option Value} {base : Heap}
end

end LX
namespace LX
open PySem PySem.Spec PyProof.Rows L2 NdefX
section
variable {P : Program} {w : World} {K : PySem.W.Frag} {mg : Str → Option Value} {base : Heap}
def sF (room entries : Int) (wl pl : Addr) (least : Int) : List (Str × V) := [("room", .int room), ("entries", .int entries), ("words", .ref wl), ("_places", .ref pl), ("_least", .int least)]
structure StoreAt (H : Hp) (C st dx wl pl : Addr) (room entries least : Int) (ws : List Int) (kvs : List (Key × V)) : Prop where
  st : H st = some (.ins C dx (sF room entries wl pl least))
  wl : H wl = some (.lst (ws.map V.int))
  pl : H pl = some (.dK kvs)
theorem int_at {ws : List Int} {i : Nat} {z : Int} (h : ws[i]? = some z) : (ws.map V.int)[i]? = some (V.int z) := by rw [List.getElem?_map, h]; rfl
theorem ixN_nat {n i : Nat} (h : i < n) : ixN n (i : Int) = some i := by
  unfold ixN
  rw [if_pos (by omega), if_pos (by omega)]
  simp
def sp_exists : Addr → Sp := fun C vs H Q _ => ∃ st dx wl pl room entries least ws kvs n, vs = [.ref st, .int n] ∧ StoreAt H C st dx wl pl room entries least ws kvs ∧ Q (.bl (valV kvs (.inl n)).isSome) H
theorem ok_Store_exists (W : WT P K mg base) : FnOk P w K mg base CX0 1 W.f_Store_exists W.fd_Store_exists ["self", "number"] (sp_exists W.c_Store) := by
  refine W.F_Store_exists.ok sc_Store_exists (fun vs H Q E h => ?_) (fun cdv A outer s H vs Q E hr h => ?_)
  · obtain ⟨st, dx, wl, pl, room, entries, least, ws, kvs, n, rfl, _⟩ := h
    rfl
  · obtain ⟨st, dx, wl, pl, room, entries, least, ws, kvs, n, rfl, S, k⟩ := h
    have hu1 := hu_of hr
    have hu64 := hu64_of hr
    refine ⟨_, (pss_one (ps_ret (pe_cmpR (op_inU hu1) (pv 1) (pe_fld (pv 0) rfl) (by first | exact nomark _ | rfl)))), ?_⟩
    refine ⟨_, rfl, _, rfl, st, _, dx, _, _, rfl, S.st, W.C_Store, W.na_Store__places, rfl, ?_⟩
    exact Or.inr ⟨_, DGet.k (k := Sum.inl n) S.pl, k⟩
def sp_size : Addr → Sp := fun C vs H Q _ => ∃ st dx wl pl room entries least ws kvs n, ∃ (p : Nat) (z : Int), vs = [.ref st, .int n] ∧ StoreAt H C st dx wl pl room entries least ws kvs ∧ valV kvs (.inl n) = some (.int (p : Int)) ∧ ws[p + 1]? = some z ∧ Q (.int z) H
theorem ok_Store_size (W : WT P K mg base) : FnOk P w K mg base CX0 1 W.f_Store_size W.fd_Store_size ["self", "number"] (sp_size W.c_Store) := by
  refine W.F_Store_size.ok sc_Store_size (fun vs H Q E h => ?_) (fun cdv A outer s H vs Q E hr h => ?_)
  · obtain ⟨st, dx, wl, pl, room, entries, least, ws, kvs, n, p, z, rfl, _⟩ := h
    rfl
  · obtain ⟨st, dx, wl, pl, room, entries, least, ws, kvs, n, p, z, rfl, S, hp, hz, k⟩ := h
    have hu1 := hu_of hr
    have hu64 := hu64_of hr
    refine ⟨_, (pss_one (ps_ret (pe_ix (ix_U hu1) (pe_fld (pv 0) rfl) (pe_op op_addU (pe_ix (ix_U hu1) (pe_fld (pv 0) rfl) (pv 1) (fun _ _ => rfl)) pe_int) (fun _ _ => rfl)))), ?_⟩
    refine ⟨_, rfl, st, _, dx, _, _, rfl, S.st, W.C_Store, W.na_Store_words, rfl, ?_⟩
    refine ⟨_, rfl, st, _, dx, _, _, rfl, S.st, W.C_Store, W.na_Store__places, rfl, ?_⟩
    refine ⟨_, rfl, Or.inr ⟨_, by rw [← hp]; exact DGet.k (k := Sum.inl n) S.pl, ?_⟩⟩
    exact Or.inl ⟨_, _, _, rfl, Or.inl (SqL.of S.wl), atI_nat (j := p + 1) (int_at hz), k⟩
def sp_kind : Addr → Sp := fun C vs H Q _ => ∃ st dx wl pl room entries least ws kvs n, ∃ (p : Nat) (z : Int), vs = [.ref st, .int n] ∧ StoreAt H C st dx wl pl room entries least ws kvs ∧ valV kvs (.inl n) = some (.int (p : Int)) ∧ ws[p + 2]? = some z ∧ Q (.int z) H
theorem ok_Store_kind (W : WT P K mg base) : FnOk P w K mg base CX0 1 W.f_Store_kind W.fd_Store_kind ["self", "number"] (sp_kind W.c_Store) := by
  refine W.F_Store_kind.ok sc_Store_kind (fun vs H Q E h => ?_) (fun cdv A outer s H vs Q E hr h => ?_)
  · obtain ⟨st, dx, wl, pl, room, entries, least, ws, kvs, n, p, z, rfl, _⟩ := h
    rfl
  · obtain ⟨st, dx, wl, pl, room, entries, least, ws, kvs, n, p, z, rfl, S, hp, hz, k⟩ := h
    have hu1 := hu_of hr
    have hu64 := hu64_of hr
    refine ⟨_, (pss_one (ps_ret (pe_ix (ix_U hu1) (pe_fld (pv 0) rfl) (pe_op op_addU (pe_ix (ix_U hu1) (pe_fld (pv 0) rfl) (pv 1) (fun _ _ => rfl)) pe_int) (fun _ _ => rfl)))), ?_⟩
    refine ⟨_, rfl, st, _, dx, _, _, rfl, S.st, W.C_Store, W.na_Store_words, rfl, ?_⟩
    refine ⟨_, rfl, st, _, dx, _, _, rfl, S.st, W.C_Store, W.na_Store__places, rfl, ?_⟩
    refine ⟨_, rfl, Or.inr ⟨_, by rw [← hp]; exact DGet.k (k := Sum.inl n) S.pl, ?_⟩⟩
    exact Or.inl ⟨_, _, _, rfl, Or.inl (SqL.of S.wl), atI_nat (j := p + 2) (int_at hz), k⟩
def sp_set_kind : Addr → Sp := fun C vs H Q _ => ∃ st dx wl pl room entries least ws kvs n, ∃ (p : Nat) (x : Int), vs = [.ref st, .int n, .int x] ∧ StoreAt H C st dx wl pl room entries least ws kvs ∧ valV kvs (.inl n) = some (.int (p : Int)) ∧ p + 2 < ws.length ∧ Q .non (upd H wl (.lst ((ws.set (p + 2) x).map V.int)))
theorem set_int (ws : List Int) (i : Nat) (x : Int) : (ws.map V.int).set i (.int x) = (ws.set i x).map V.int := by rw [List.map_set]
theorem ok_Store_set_kind (W : WT P K mg base) : FnOk P w K mg base CX0 1 W.f_Store_set_kind W.fd_Store_set_kind ["self", "number", "word"] (sp_set_kind W.c_Store) := by
  refine W.F_Store_set_kind.ok sc_Store_set_kind (fun vs H Q E h => ?_) (fun cdv A outer s H vs Q E hr h => ?_)
  · obtain ⟨st, dx, wl, pl, room, entries, least, ws, kvs, n, p, z, rfl, _⟩ := h
    rfl
  · obtain ⟨st, dx, wl, pl, room, entries, least, ws, kvs, n, p, z, rfl, S, hp, hz, k⟩ := h
    have hu1 := hu_of hr
    have hu64 := hu64_of hr
    refine ⟨_, (pss_one (ps_asg (pv 2) (pg_sub (pe_fld (pv 0) rfl) (pe_op op_addU (pe_ix (ix_U hu1) (pe_fld (pv 0) rfl) (pv 1) (fun _ _ => rfl)) pe_int) set_list))), ?_⟩
    refine ⟨_, rfl, ?_⟩
    refine ⟨_, rfl, st, _, dx, _, _, rfl, S.st, W.C_Store, W.na_Store_words, rfl, ?_⟩
    refine ⟨_, rfl, st, _, dx, _, _, rfl, S.st, W.C_Store, W.na_Store__places, rfl, ?_⟩
    refine ⟨_, rfl, Or.inr ⟨_, by rw [← hp]; exact DGet.k (k := Sum.inl n) S.pl, ?_⟩⟩
    refine ⟨wl, _, _, p + 2, rfl, rfl, S.wl, ixN_nat (i := p + 2) (by rw [List.length_map]; exact hz), ?_⟩
    rw [set_int]
    exact k
def sp_put : Addr → Sp := fun C vs H Q _ => ∃ st dx wl pl room entries least ws kvs n, ∃ (p a : Nat) (x : Int), vs = [.ref st, .int n, .int (a : Int), .int x] ∧ StoreAt H C st dx wl pl room entries least ws kvs ∧ valV kvs (.inl n) = some (.int (p : Int)) ∧ p + 3 + a < ws.length ∧ Q .non (upd H wl (.lst ((ws.set (p + 3 + a) x).map V.int)))
theorem ok_Store_put (W : WT P K mg base) : FnOk P w K mg base CX0 1 W.f_Store_put W.fd_Store_put ["self", "number", "at", "word"] (sp_put W.c_Store) := by
  refine W.F_Store_put.ok sc_Store_put (fun vs H Q E h => ?_) (fun cdv A outer s H vs Q E hr h => ?_)
  · obtain ⟨st, dx, wl, pl, room, entries, least, ws, kvs, n, p, a, z, rfl, _⟩ := h
    rfl
  · obtain ⟨st, dx, wl, pl, room, entries, least, ws, kvs, n, p, a, z, rfl, S, hp, hz, k⟩ := h
    have hu1 := hu_of hr
    have hu64 := hu64_of hr
    refine ⟨_, (pss_one (ps_asg (pv 3) (pg_sub (pe_fld (pv 0) rfl) (pe_op op_addU (pe_op op_addU (pe_ix (ix_U hu1) (pe_fld (pv 0) rfl) (pv 1) (fun _ _ => rfl)) (pe_gi rfl W.g_HEADER)) (pv 2)) set_list))), ?_⟩
    refine ⟨_, rfl, ?_⟩
    refine ⟨_, rfl, st, _, dx, _, _, rfl, S.st, W.C_Store, W.na_Store_words, rfl, ?_⟩
    refine ⟨_, rfl, st, _, dx, _, _, rfl, S.st, W.C_Store, W.na_Store__places, rfl, ?_⟩
    refine ⟨_, rfl, Or.inr ⟨_, by rw [← hp]; exact DGet.k (k := Sum.inl n) S.pl, ?_⟩⟩
    refine ⟨_, rfl, ?_⟩
    refine ⟨wl, _, _, p + 3 + a, rfl, rfl, S.wl, ixN_nat (i := p + 3 + a) (by rw [List.length_map]; exact hz), ?_⟩
    rw [set_int]
    exact k
def seg (ws : List Int) (p n : Nat) : List Int := (ws.drop p).take n
theorem cut_seg {ws : List Int} {p n : Nat} (h : p + n ≤ ws.length) : cutV (ws.map V.int) (some (p : Int)) (some ((p : Int) + (n : Int))) = (seg ws p n).map V.int := by
  unfold cutV seg
  have h1 : HT.sIx (ws.map V.int).length 0 (some (p : Int)) = p := by rw [HT.sIx_nat, List.length_map]; omega
  have h2 : HT.sIx (ws.map V.int).length (ws.map V.int).length (some ((p : Int) + (n : Int))) = p + n := by
    have := HT.sIx_nat (ws.map V.int).length (ws.map V.int).length (p + n)
    rw [show ((p + n : Nat) : Int) = (p : Int) + (n : Int) by omega] at this
    rw [this, List.length_map]
    omega
  rw [h1, h2, List.map_take, List.map_drop, show p + n - p = n by omega]
def sp_slots : Addr → Sp := fun C vs H Q _ => ∃ st dx wl pl room entries least ws kvs n, ∃ (p z : Nat), vs = [.ref st, .int n] ∧ StoreAt H C st dx wl pl room entries least ws kvs ∧ valV kvs (.inl n) = some (.int (p : Int)) ∧ ws[p + 1]? = some (z : Int) ∧ p + 3 + z ≤ ws.length ∧
  ∀ q, H q = none → Q (.ref q) (upd H q (.lst ((seg ws (p + 3) z).map V.int)))
theorem ok_Store_slots (W : WT P K mg base) : FnOk P w K mg base CX0 2 W.f_Store_slots W.fd_Store_slots ["self", "number"] (sp_slots W.c_Store) := by
  refine W.F_Store_slots.ok sc_Store_slots (fun vs H Q E h => ?_) (fun cdv A outer s H vs Q E hr h => ?_)
  · obtain ⟨st, dx, wl, pl, room, entries, least, ws, kvs, n, p, z, rfl, _⟩ := h
    rfl
  · obtain ⟨st, dx, wl, pl, room, entries, least, ws, kvs, n, p, z, rfl, S, hp, hz, hl, k⟩ := h
    have hu1 := hu_of hr
    have hu64 := hu64_of hr
    refine ⟨_, (pss_cons (ps_set (i := 2) sc_Store_slots.nd rfl (by first | exact Or.inl rfl | exact Or.inr rfl) (pe_op op_addU (pe_ix (ix_U hu1) (pe_fld (pv 0) rfl) (pv 1) (fun _ _ => rfl)) (pe_gi rfl W.g_HEADER)))
      (pss_one (ps_ret (pe_slice sl_U (pe_fld (pv 0) rfl) (po_some (pv 2)) (po_some (pe_op op_addU (pv 2) (pe_meth (pv 0) W.C_Store W.m_Store_size (ok_Store_size W) (hr.mono (by decide)) W.b_Store_size .nil pass0 (pa_cons (pv 1) pa_nil)))))))), ?_⟩
    refine ⟨_, rfl, st, _, dx, _, _, rfl, S.st, W.C_Store, W.na_Store__places, rfl, ?_⟩
    refine ⟨_, rfl, Or.inr ⟨_, by rw [← hp]; exact DGet.k (k := Sum.inl n) S.pl, ?_⟩⟩
    refine ⟨_, rfl, st, _, dx, _, _, rfl, S.st, W.C_Store, W.na_Store_words, rfl, ?_⟩
    refine ⟨_, rfl, _, rfl, ?_⟩
    refine ⟨_, rfl, ?_⟩
    refine ⟨_, rfl, st, dx, _, rfl, S.st, rfl, ?_⟩
    refine ⟨_, rfl, ?_⟩
    refine ⟨st, dx, wl, pl, room, entries, least, ws, kvs, n, p, z, rfl, S, hp, hz, ?_⟩
    refine ⟨_, rfl, ?_⟩
    refine Or.inl ⟨wl, _, rfl, SqL.of S.wl, fun q hq => ?_⟩
    have e : cutV (ws.map V.int) (some ((p : Int) + 3)) (some ((p : Int) + 3 + (z : Int))) = (seg ws (p + 3) z).map V.int := cut_seg (p := p + 3) hl
    rw [e]
    exact k q hq
def sp_numbers : Addr → Sp := fun C vs H Q _ => ∃ st dx wl pl room entries least ws kvs, ∃ ns : List Int, vs = [.ref st] ∧ StoreAt H C st dx wl pl room entries least ws kvs ∧ kvs.map (·.1) = ns.map Sum.inl ∧
  ∀ (ns' : List Int) (p : Addr), ns'.Perm ns → ns'.Pairwise (· ≤ ·) → H p = none → Q (.ref p) (upd H p (.lst (ns'.map V.int)))
theorem ok_Store_numbers (W : WT P K mg base) : FnOk P w K mg base CX0 1 W.f_Store_numbers W.fd_Store_numbers ["self"] (sp_numbers W.c_Store) := by
  refine W.F_Store_numbers.ok sc_Store_numbers (fun vs H Q E h => ?_) (fun cdv A outer s H vs Q E hr h => ?_)
  · obtain ⟨st, dx, wl, pl, room, entries, least, ws, kvs, ns, rfl, _⟩ := h
    rfl
  · obtain ⟨st, dx, wl, pl, room, entries, least, ws, kvs, ns, rfl, S, hk, k⟩ := h
    have hu1 := hu_of hr
    have hu64 := hu64_of hr
    refine ⟨_, (pss_one (ps_ret (pe_callB (call_sortedU rfl) (by rfl) W.n_sorted bb_sorted (pa_cons (pe_fld (pv 0) rfl) pa_nil)))), ?_⟩
    refine ⟨_, rfl, st, _, dx, _, _, rfl, S.st, W.C_Store, W.na_Store__places, rfl, ?_⟩
    exact ⟨_, _, rfl, Or.inr ⟨kvs, Rd.of S.pl, hk⟩, k⟩
def sp_drop : Addr → Sp := fun C vs H Q _ => ∃ st dx wl pl room entries least ws kvs n, vs = [.ref st, .int n] ∧ StoreAt H C st dx wl pl room entries least ws kvs ∧ (valV kvs (.inl n)).isSome = true ∧
  ∀ H', StoreAt H' C st dx wl pl room entries (if n < least then n else least) ws (dropK kvs (.inl n)) → (∀ b, b ≠ st → b ≠ pl → H' b = H b) → Q .non H'
theorem ok_Store_drop (W : WT P K mg base) : FnOk P w K mg base CX0 1 W.f_Store_drop W.fd_Store_drop ["self", "number"] (sp_drop W.c_Store) := by
  refine W.F_Store_drop.ok sc_Store_drop (fun vs H Q E h => ?_) (fun cdv A outer s H vs Q E hr h => ?_)
  · obtain ⟨st, dx, wl, pl, room, entries, least, ws, kvs, ns, rfl, _⟩ := h
    rfl
  · obtain ⟨st, dx, wl, pl, room, entries, least, ws, kvs, n, rfl, S, hk, k⟩ := h
    have hu1 := hu_of hr
    have hu64 := hu64_of hr
    have n1 : st ≠ pl := ne_of S.st S.pl (by intro z; cases z)
    have n2 : wl ≠ pl := ne_of S.wl S.pl (by intro z; cases z)
    have n3 : st ≠ wl := ne_of S.st S.wl (by intro z; cases z)
    refine ⟨_, (pss_cons (ps_ddel (pe_fld (pv 0) rfl) (pv 1))
      (pss_one (ps_fld (pv 0) (pe_callB (call_min2 rfl) (by rfl) W.n_min bb_min (pa_cons (pe_fld (pv 0) rfl) (pa_cons (pv 1) pa_nil))) rfl))), ?_⟩
    refine ⟨_, rfl, st, _, dx, _, _, rfl, S.st, W.C_Store, W.na_Store__places, rfl, ?_⟩
    refine ⟨_, rfl, pl, _, .inl n, rfl, S.pl, rfl, hk, ?_⟩
    have h2 : upd H pl (.dK (dropK kvs (.inl n))) st = some (.ins W.c_Store dx (sF room entries wl pl least)) := by rw [upd_ne n1]; exact S.st
    refine ⟨_, rfl, st, _, dx, _, _, rfl, h2, W.C_Store, W.na_Store__least, rfl, ?_⟩
    refine ⟨_, rfl, _, _, rfl, ?_⟩
    refine ⟨_, rfl, st, _, dx, _, rfl, h2, W.C_Store, W.na_Store__least, (by show 5 < 1000; decide), ?_⟩
    refine k _ ⟨upd_same, ?_, ?_⟩ (fun b b1 b2 => ?_)
    · rw [upd_ne n3.symm, upd_ne n2]; exact S.wl
    · rw [upd_ne n1.symm]; exact upd_same
    · rw [upd_ne b1, upd_ne b2]
def sp_init : Addr → Sp := fun C vs H Q _ => ∃ st dx room entries, vs = [.ref st, .int room, .int entries] ∧ H st = some (.ins C dx []) ∧
  ∀ H' wl pl, StoreAt H' C st dx wl pl room entries 0 [] [] → (∀ b o, H b = some o → b ≠ st → H' b = some o) → H wl = none → H pl = none → Q .non H'
theorem ok_Store___init__ (W : WT P K mg base) : FnOk P w K mg base CX0 1 W.f_Store___init__ W.fd_Store___init__ ["self", "room", "entries"] (sp_init W.c_Store) := by
  refine W.F_Store___init__.ok sc_Store___init__ (fun vs H Q E h => ?_) (fun cdv A outer s H vs Q E hr h => ?_)
  · obtain ⟨st, dx, room, entries, rfl, _⟩ := h
    rfl
  · obtain ⟨st, dx, room, entries, rfl, S, k⟩ := h
    have hu1 := hu_of hr
    have hu64 := hu64_of hr
    refine ⟨_, (pss_cons (ps_fld (pv 0) (pv 1) rfl)
      (pss_cons (ps_fld (pv 0) (pv 2) rfl)
      (pss_cons (ps_fld (pv 0) (pe_lst pa_nil) rfl)
      (pss_cons (ps_fld (pv 0) pe_dnewK rfl)
      (pss_one (ps_fld (pv 0) pe_int rfl)))))), ?_⟩
    refine ⟨_, rfl, _, rfl, st, _, dx, _, rfl, S, W.C_Store, W.na_Store_room, (by decide), ?_⟩
    refine ⟨_, rfl, _, rfl, st, _, dx, _, rfl, upd_same, W.C_Store, W.na_Store_entries, (by show 1 < 1000; decide), ?_⟩
    rw [upd_upd]
    generalize e1 : upd H st (.ins W.c_Store dx (putF "entries" (.int entries) (putF "room" (.int room) []))) = H1
    have s1 : H1 st = some (.ins W.c_Store dx [("room", .int room), ("entries", .int entries)]) := by rw [← e1]; exact upd_same
    refine ⟨(by show 0 ≤ sizeLine; decide), fun wl hw => ?_⟩
    have nw : st ≠ wl := ne_of_none s1 hw
    have s2 : upd H1 wl (.lst []) st = some (.ins W.c_Store dx [("room", .int room), ("entries", .int entries)]) := by rw [upd_ne nw]; exact s1
    refine ⟨_, rfl, st, _, dx, _, rfl, s2, W.C_Store, W.na_Store_words, (by show 2 < 1000; decide), ?_⟩
    intro pl hp
    have np : st ≠ pl := ne_of_none upd_same hp
    have npw : wl ≠ pl := fun z => by subst z; rw [upd_ne nw.symm, upd_same] at hp; cases hp
    refine ⟨_, rfl, st, _, dx, _, rfl, (by rw [upd_ne np]; exact upd_same), W.C_Store, W.na_Store__places, (by show 3 < 1000; decide), ?_⟩
    refine ⟨_, rfl, st, _, dx, _, rfl, upd_same, W.C_Store, W.na_Store__least, (by show 4 < 1000; decide), ?_⟩
    rw [upd_upd]
    have hw0 : H wl = none := by rw [← e1, upd_ne nw.symm] at hw; exact hw
    have hp0 : H pl = none := by rw [upd_ne np.symm, upd_ne npw.symm, ← e1, upd_ne np.symm] at hp; exact hp
    refine k _ wl pl ⟨upd_same, ?_, ?_⟩ (fun b o e nb => ?_) hw0 hp0
    · rw [upd_ne nw.symm, upd_ne npw, upd_ne nw.symm]; exact upd_same
    · rw [upd_ne np.symm]; exact upd_same
    · rw [upd_ne nb, upd_ne (ne_of_none e hp0), upd_ne nb, upd_ne (ne_of_none e hw0), ← e1, upd_ne nb]; exact e
end

end LX
namespace LX
open PySem PySem.Spec PyProof.Rows L2 NdefX
section
variable {P : Program} {w : World} {K : PySem.W.Frag} {mg : Str → Option Value} {base : Heap}
def sp_exchange : Addr → Sp := fun C vs H Q _ => ∃ st dx wl pl room entries least ws kvs m n, ∃ (p q : Nat), vs = [.ref st, .int m, .int n] ∧ StoreAt H C st dx wl pl room entries least ws kvs ∧ valV kvs (.inl m) = some (.int (p : Int)) ∧ valV kvs (.inl n) = some (.int (q : Int)) ∧ p < ws.length ∧ q < ws.length ∧ kvs.length + 1 < sizeLine ∧
  ∀ H', StoreAt H' C st dx wl pl room entries least ((ws.set p n).set q m) (putK (putK kvs (.inl m) (.int (q : Int))) (.inl n) (.int (p : Int))) → (∀ b, b ≠ wl → b ≠ pl → H' b = H b) → Q .non H'
theorem ok_Store_exchange (W : WT P K mg base) : FnOk P w K mg base CX0 1 W.f_Store_exchange W.fd_Store_exchange ["self", "first", "second"] (sp_exchange W.c_Store) := by
  refine W.F_Store_exchange.ok sc_Store_exchange (fun vs H Q E h => ?_) (fun cdv A outer s H vs Q E hr h => ?_)
  · obtain ⟨st, dx, wl, pl, room, entries, least, ws, kvs, m, n, p, q, rfl, _⟩ := h
    rfl
  · obtain ⟨st, dx, wl, pl, room, entries, least, ws, kvs, m, n, p, q, rfl, S, hm, hn, hp, hq, hl, k⟩ := h
    have hu1 := hu_of hr
    have hu64 := hu64_of hr
    have n1 : st ≠ pl := ne_of S.st S.pl (by intro z; cases z)
    have n2 : wl ≠ pl := ne_of S.wl S.pl (by intro z; cases z)
    have n3 : st ≠ wl := ne_of S.st S.wl (by intro z; cases z)
    refine ⟨_, (pss_cons (ps_set (i := 3) sc_Store_exchange.nd rfl (by first | exact Or.inl rfl | exact Or.inr rfl) (pe_ix (ix_U hu1) (pe_fld (pv 0) rfl) (pv 1) (fun _ _ => rfl)))
      (pss_cons (ps_set (i := 4) sc_Store_exchange.nd rfl (by first | exact Or.inl rfl | exact Or.inr rfl) (pe_ix (ix_U hu1) (pe_fld (pv 0) rfl) (pv 2) (fun _ _ => rfl)))
      (pss_cons (ps_dput hu1 (pe_fld (pv 0) rfl) (pv 1) (pv 4) rfl)
      (pss_cons (ps_dput hu1 (pe_fld (pv 0) rfl) (pv 2) (pv 3) rfl)
      (pss_cons (ps_asg (pv 2) (pg_sub (pe_fld (pv 0) rfl) (pv 3) set_list))
      (pss_one (ps_asg (pv 1) (pg_sub (pe_fld (pv 0) rfl) (pv 4) set_list)))))))), ?_⟩
    refine ⟨_, rfl, st, _, dx, _, _, rfl, S.st, W.C_Store, W.na_Store__places, rfl, ?_⟩
    refine ⟨_, rfl, Or.inr ⟨_, by rw [← hm]; exact DGet.k (k := Sum.inl m) S.pl, ?_⟩⟩
    refine ⟨_, rfl, st, _, dx, _, _, rfl, S.st, W.C_Store, W.na_Store__places, rfl, ?_⟩
    refine ⟨_, rfl, Or.inr ⟨_, by rw [← hn]; exact DGet.k (k := Sum.inl n) S.pl, ?_⟩⟩
    refine ⟨_, rfl, _, rfl, st, _, dx, _, _, rfl, S.st, W.C_Store, W.na_Store__places, rfl, ?_⟩
    refine ⟨_, rfl, pl, _, rfl, DPut.k (k := Sum.inl m) S.pl (by omega), ?_⟩
    generalize e1 : upd H pl (.dK (putK kvs (Sum.inl m) (.int (q : Int)))) = H1
    have s1 : H1 st = some (.ins W.c_Store dx (sF room entries wl pl least)) := by rw [← e1, upd_ne n1]; exact S.st
    have p1 : H1 pl = some (.dK (putK kvs (Sum.inl m) (.int (q : Int)))) := by rw [← e1]; exact upd_same
    refine ⟨_, rfl, _, rfl, st, _, dx, _, _, rfl, s1, W.C_Store, W.na_Store__places, rfl, ?_⟩
    refine ⟨_, rfl, pl, _, rfl, DPut.k (k := Sum.inl n) p1 (by have := length_putK kvs (Sum.inl m) (.int (q : Int)); omega), ?_⟩
    generalize e2 : upd H1 pl (.dK (putK (putK kvs (Sum.inl m) (.int (q : Int))) (Sum.inl n) (.int (p : Int)))) = H2
    have s2 : H2 st = some (.ins W.c_Store dx (sF room entries wl pl least)) := by rw [← e2, upd_ne n1]; exact s1
    have w2 : H2 wl = some (.lst (ws.map V.int)) := by rw [← e2, upd_ne n2, ← e1, upd_ne n2]; exact S.wl
    have p2 : H2 pl = some (.dK (putK (putK kvs (Sum.inl m) (.int (q : Int))) (Sum.inl n) (.int (p : Int)))) := by rw [← e2]; exact upd_same
    refine ⟨_, rfl, _, rfl, st, _, dx, _, _, rfl, s2, W.C_Store, W.na_Store_words, rfl, ?_⟩
    refine ⟨_, rfl, wl, _, _, p, rfl, rfl, w2, ixN_nat (i := p) (by rw [List.length_map]; exact hp), ?_⟩
    rw [set_int]
    generalize e3 : upd H2 wl (.lst ((ws.set p n).map V.int)) = H3
    have s3 : H3 st = some (.ins W.c_Store dx (sF room entries wl pl least)) := by rw [← e3, upd_ne n3]; exact s2
    have w3 : H3 wl = some (.lst ((ws.set p n).map V.int)) := by rw [← e3]; exact upd_same
    refine ⟨_, rfl, _, rfl, st, _, dx, _, _, rfl, s3, W.C_Store, W.na_Store_words, rfl, ?_⟩
    refine ⟨_, rfl, wl, _, _, q, rfl, rfl, w3, ixN_nat (i := q) (by rw [List.length_map, List.length_set]; exact hq), ?_⟩
    rw [set_int]
    refine k _ ⟨?_, upd_same, ?_⟩ (fun b b1 b2 => ?_)
    · rw [upd_ne n3]; exact s3
    · rw [upd_ne n2.symm, ← e3, upd_ne n2.symm]; exact p2
    · rw [upd_ne b1, ← e3, upd_ne b1, ← e2, upd_ne b2, ← e1, upd_ne b2]
end

end LX
namespace LX
open PySem PySem.Spec PyProof.Rows L2 NdefX
section
variable {P : Program} {w : World} {K : PySem.W.Frag} {mg : Str → Option Value} {base : Heap}
def sp_is_ref : Sp := fun vs H Q _ => ∃ n : Int, vs = [.int n] ∧ Q (.bl (decide (n % 2 = 0))) H
theorem ok_is_ref (W : WT P K mg base) : FnOk P w K mg base CX0 1 W.f_is_ref W.fd_is_ref ["word"] sp_is_ref := by
  refine W.F_is_ref.ok sc_is_ref (fun vs H Q E h => ?_) (fun cdv A outer s H vs Q E hr h => ?_)
  · obtain ⟨n, rfl, _⟩ := h
    rfl
  · obtain ⟨n, rfl, k⟩ := h
    have hu1 := hu_of hr
    have hu64 := hu64_of hr
    refine ⟨_, (pss_one (ps_ret (pe_cmpR (op_eqU hu64) (pe_op op_mod (pv 0) pe_int) pe_int (by first | exact nomark _ | rfl)))), ?_⟩
    refine ⟨_, rfl, _, _, rfl, rfl, (by show (0 : Int) < 2; decide), rfl, ?_⟩
    show Q (.bl (decide (V.int (n % 2) = V.int 0))) H
    rw [I_dec]
    exact k
def sp_ref_of : Sp := fun vs H Q _ => ∃ n : Int, vs = [.int n] ∧ n % 2 = 0 ∧ Q (.int (n / 2)) H
theorem ok_ref_of (W : WT P K mg base) : FnOk P w K mg base CX0 2 W.f_ref_of W.fd_ref_of ["word"] sp_ref_of := by
  refine W.F_ref_of.ok sc_ref_of (fun vs H Q E h => ?_) (fun cdv A outer s H vs Q E hr h => ?_)
  · obtain ⟨n, rfl, _⟩ := h
    rfl
  · obtain ⟨n, rfl, hn, k⟩ := h
    have hu1 := hu_of hr
    have hu64 := hu64_of hr
    refine ⟨_, (pss_cons (ps_if (pt_not (pt_truth (pe_call (ok_is_ref W) (hr.mono (by decide)) rfl W.g_is_ref W.F_is_ref.kp W.b_is_ref .nil pass0 (pa_cons (pv 0) pa_nil)) (by intro _; rfl))) (pss_one ps_never) pss_nil)
      (pss_one (ps_ret (pe_op op_fdivW (pv 0) pe_int)))), ?_⟩
    refine ⟨_, rfl, n, rfl, _, rfl, ?_⟩
    refine iteND (fun h => absurd hn h) (fun _ => ?_)
    exact ⟨_, rfl, _, _, rfl, rfl, ⟨by decide, by decide⟩, k⟩
def sp_number : Sp := fun vs H Q _ => ∃ c k : Int, vs = [.int c, .int k] ∧ 0 ≤ k ∧ k ≤ 100000 ∧ ∀ r : Int, 0 ≤ r → Q (.int r) H
theorem ok__law_number (W : WT P K mg base) : FnOk P w K mg base CX0 1 W.f__law_number W.fd__law_number ["_law_cell", "_law_k"] sp_number := by
  refine W.F__law_number.ok sc__law_number (fun vs H Q E h => ?_) (fun cdv A outer s H vs Q E hr h => ?_)
  · obtain ⟨n, m, rfl, _⟩ := h
    rfl
  · obtain ⟨c, m, rfl, hm, hm2, k⟩ := h
    have hu1 := hu_of hr
    have hu64 := hu64_of hr
    refine ⟨_, (pss_cons (ps_if (pt_cmpR op_geU (pv 0) (pe_op op_pow pe_int pe_int) (by first | exact nomark _ | rfl)) (pss_one (ps_ret (pv 0))) pss_nil)
      (pss_cons (ps_set (i := 2) sc__law_number.nd rfl (by first | exact Or.inl rfl | exact Or.inr rfl) (pe_op op_mod (pe_callTy call_intU (by rfl) W.n_int bb_int (pa_cons (pe_op op_addU (pe_op op_addU (pe_op op_mulU (pv 0) pe_int) (pe_op op_mulU (pv 1) pe_int)) pe_int) pa_nil)) pe_int))
      (pss_one (ps_ret (pe_op op_mod (pe_callTy call_intU (by rfl) W.n_int bb_int (pa_cons (pe_op op_addU (pe_op op_mulU (pv 2) (pv 2)) (pe_op op_mulU (pv 1) pe_int)) pa_nil)) pe_int))))), ?_⟩
    refine ⟨_, rfl, _, _, rfl, rfl, ⟨by decide, by decide, by decide⟩, _, rfl, ?_⟩
    refine iteD (fun h => ?_) (fun h => ?_)
    · refine ⟨_, rfl, k _ ?_⟩
      have h : (10 : Int) ^ 18 ≤ c := h
      omega
    · refine ⟨_, rfl, Or.inr ⟨by decide, by decide⟩, ?_⟩
      refine ⟨_, rfl, Or.inr ⟨by decide, by decide⟩, ?_⟩
      refine ⟨_, _, rfl, rfl, (by show (0 : Int) < 2147483647; decide), ?_⟩
      have e1 := Int.emod_nonneg (c * 48271 + m * 69621 + 11) (by decide : (2147483647 : Int) ≠ 0)
      have e2 := Int.emod_lt_of_pos (c * 48271 + m * 69621 + 11) (by decide : (0 : Int) < 2147483647)
      generalize (c * 48271 + m * 69621 + 11) % 2147483647 = d at e1 e2 ⊢
      refine ⟨_, rfl, _, rfl, Or.inl ⟨by omega, by omega⟩, ?_⟩
      refine ⟨_, rfl, Or.inr ⟨by decide, by decide⟩, ?_⟩
      refine ⟨_, _, rfl, rfl, (by show (0 : Int) < 2147483399; decide), ?_⟩
      exact k _ (Int.emod_nonneg _ (by decide))
theorem divc (j : Int) (h0 : 0 < j) (h : j ≤ 100000000) : CDivW 0 j := ⟨h0, by
  have : j.natAbs.log2 ≤ j.natAbs := Nat.log2_le_self _
  have e : j.natAbs ≤ 100000000 := by omega
  have : j.natAbs.log2 < 27 := by
    by_cases z : j.natAbs = 0
    · omega
    · exact (Nat.log2_lt z).mpr (by omega)
  omega⟩
theorem divx {i j : Int} (h : CDivW 0 j) : CDivW i j := h
def sp_is : Sp := fun vs H Q _ => ∃ a b : Int, vs = [.int a, .int b] ∧ Q (.bl (decide (a = b))) H
theorem ok__law_is (W : WT P K mg base) : FnOk P w K mg base CX0 1 W.f__law_is W.fd__law_is ["_law_actual", "_law_due"] sp_is := by
  refine W.F__law_is.ok sc__law_is (fun vs H Q E h => ?_) (fun cdv A outer s H vs Q E hr h => ?_)
  · obtain ⟨n, m, rfl, _⟩ := h
    rfl
  · obtain ⟨a, b, rfl, k⟩ := h
    have hu1 := hu_of hr
    have hu64 := hu64_of hr
    refine ⟨_, (pss_one (ps_ret (pe_and (pe_callB call_isi (by rfl) W.n_isinstance bb_isinstance (pa_cons (pv 0) (pa_cons (pe_bt rfl W.n_int bb_int) pa_nil))) (pe_and (pe_notT (pe_callB call_isi (by rfl) W.n_isinstance bb_isinstance (pa_cons (pv 0) (pa_cons (pe_bt rfl W.n_bool bb_bool) pa_nil)))) (pe_one (pe_cmpR (op_eqU hu64) (pv 0) (pv 1) (by first | exact nomark _ | rfl))))))), ?_⟩
    refine ⟨_, rfl, ?_⟩
    refine ⟨_, _, _, _, _, rfl, ClsV.ty _, TyX.base (TyOf.int _), kt_int_int, ?_⟩
    refine ⟨_, rfl, ?_⟩
    refine iteT ?_
    refine ⟨_, rfl, ?_⟩
    refine ⟨_, _, _, _, _, rfl, ClsV.ty _, TyX.base (TyOf.int _), kt_int_bool, ?_⟩
    refine ⟨_, rfl, _, rfl, iteT ?_⟩
    refine ⟨_, rfl, _, rfl, rfl, ?_⟩
    show Q (.bl (decide (V.int a = V.int b))) H
    rw [I_dec]
    exact k
def IsI (H : Hp) (a : Addr) (ns : List Int) : Prop := H a = some (.lst (ns.map V.int))
def sp_same : Sp := fun vs H Q _ => ∃ a b ns, vs = [.ref a, .ref b] ∧ IsI H a ns ∧ IsI H b ns ∧ ns.length ≤ 100000 ∧ Q (.bl true) H
theorem ok__law_same (W : WT P K mg base) : FnOk P w K mg base CX0 2 W.f__law_same W.fd__law_same ["_law_actual", "_law_due"] sp_same := by
  refine W.F__law_same.ok sc__law_same (fun vs H Q E h => ?_) (fun cdv A outer s H vs Q E hr h => ?_)
  · obtain ⟨n, m, ns, rfl, _⟩ := h
    rfl
  · obtain ⟨a, b, ns, rfl, ha, hb, hl, k⟩ := h
    have hu1 := hu_of hr
    have hu64 := hu64_of hr
    refine ⟨_, (pss_cons (ps_if (PW.pt (pw_or (pt_not (pt_truth (pe_callB call_isi (by rfl) W.n_isinstance bb_isinstance (pa_cons (pv 0) (pa_cons (pe_bt rfl W.n_list bb_list) pa_nil))) (by intro _; rfl))) (pw_or1 (pt_cmpR (op_neU hu64) (pe_callB call_lenU (by rfl) W.n_len bb_len (pa_cons (pv 0) pa_nil)) (pe_callB call_lenU (by rfl) W.n_len bb_len (pa_cons (pv 1) pa_nil)) (by first | exact nomark _ | rfl))))) (pss_one (ps_ret pe_bl)) pss_nil)
      (pss_cons (ps_for PassesOwn.never rfl (pi_range1 (by rfl) W.n_range (pa_cons (pe_callB call_lenU (by rfl) W.n_len bb_len (pa_cons (pv 1) pa_nil)) pa_nil)) (pg_name (i := 2) sc__law_same.nd rfl (by first | exact Or.inl rfl | exact Or.inr rfl)) (pss_one (ps_if (pt_not (pt_truth (pe_call (ok__law_is W) (hr.mono (by decide)) rfl W.g__law_is W.F__law_is.kp W.b__law_is .nil pass0 (pa_cons (pe_ix (ix_U hu1) (pv 0) (pv 2) (fun _ _ => rfl)) (pa_cons (pe_ix (ix_U hu1) (pv 1) (pv 2) (fun _ _ => rfl)) pa_nil))) (by intro _; rfl))) (pss_one (ps_ret pe_bl)) pss_nil)))
      (pss_one (ps_ret pe_bl)))), ?_⟩
    refine ⟨_, rfl, ?_⟩
    refine ⟨_, _, _, _, _, rfl, ClsV.ty _, TyX.base (TyOf.lst ha), kt_list_list, ?_⟩
    refine ⟨_, rfl, iteF ?_⟩
    refine ⟨_, rfl, Or.inl ⟨_, Or.inl (SqL.of ha), ?_⟩⟩
    refine ⟨_, rfl, Or.inl ⟨_, Or.inl (SqL.of hb), ?_⟩⟩
    refine ⟨rfl, _, rfl, ?_⟩
    refine iteND (fun h => absurd rfl h) (fun _ => ?_)
    refine ⟨_, rfl, Or.inl ⟨_, Or.inl (SqL.of hb), ?_⟩⟩
    rw [List.length_map]
    refine ⟨_, rfl, by omega, by omega, for_range (lo := 0) (n := ns.length) (fun _ σ H' => (∃ v, σ = [some (.ref a), some (.ref b), v]) ∧ H' = H) ⟨⟨_, rfl⟩, rfl⟩ (fun i σ H' hi hI => ?_) (fun σ H' hI => ?_)⟩
    · obtain ⟨⟨v, rfl⟩, rfl⟩ := hI
      have hx := int_at (List.getElem?_eq_getElem hi)
      refine ⟨_, rfl, _, rfl, Or.inl ⟨_, _, _, rfl, Or.inl (SqL.of ha), by rw [Int.zero_add]; exact atI_nat hx, ?_⟩⟩
      refine ⟨_, rfl, _, rfl, Or.inl ⟨_, _, _, rfl, Or.inl (SqL.of hb), by rw [Int.zero_add]; exact atI_nat hx, ?_⟩⟩
      refine ⟨_, _, rfl, ?_⟩
      refine ⟨_, rfl, ?_⟩
      refine iteND (fun h => absurd rfl h) (fun _ => ?_)
      exact ⟨⟨_, rfl⟩, rfl⟩
    · obtain ⟨_, rfl⟩ := hI
      exact k
end

end LX
namespace LX
open PySem PySem.Spec PyProof.Rows L2 NdefX
section
variable {P : Program} {w : World} {K : PySem.W.Frag} {mg : Str → Option Value} {base : Heap}
theorem pig {α : Type} [DecidableEq α] (f : Nat → α) (hf : ∀ i j, f i = f j → i = j) : ∀ (m : Nat) (l : List α), (∀ n, n < m → f n ∈ l) → m ≤ l.length
  | 0, _, _ => Nat.zero_le _
  | m + 1, l, h => by
    have hm := h m (Nat.lt_succ_self m)
    have := pig f hf m (l.erase (f m)) fun n hn => (List.mem_erase_of_ne (fun e => by have := hf _ _ e; omega)).mpr (h n (by omega))
    have hl := List.length_erase_of_mem hm
    have : 0 < l.length := List.length_pos_of_mem hm
    omega
theorem val_mem {κ : Type} [DecidableEq κ] {kvs : List (κ × V)} {k : κ} {v : V} (h : valV kvs k = some v) : (k, v) ∈ kvs := by
  unfold valV at h
  obtain ⟨p, hp, e⟩ := Option.map_eq_some_iff.mp h
  have h1 := List.find?_some hp
  have h2 := List.mem_of_find?_eq_some hp
  have h1 : p.1 = k := of_decide_eq_true h1
  obtain ⟨a, b⟩ := p
  subst h1 e
  exact h2
def Seen (kvs : List (Key × V)) (m : Int) : Prop := 0 ≤ m ∧ ∀ n : Int, 0 ≤ n → n < m → (valV kvs (.inl n)).isSome = true
theorem Seen.le {kvs : List (Key × V)} {m : Int} (h : Seen kvs m) : m ≤ kvs.length := by
  have := pig (α := Key) (fun n => .inl (n : Int)) (fun i j e => by have := Sum.inl.inj e; omega) m.toNat (kvs.map (·.1)) fun n hn => by
    have z := h.2 n (by omega) (by have := h.1; omega)
    obtain ⟨v, hv⟩ := Option.isSome_iff_exists.mp z
    exact List.mem_map.mpr ⟨_, val_mem hv, rfl⟩
  rw [List.length_map] at this
  have := h.1
  omega
def sp_free : Addr → Sp := fun C vs H Q _ => ∃ st dx wl pl room entries least ws kvs, vs = [.ref st] ∧ StoreAt H C st dx wl pl room entries least ws kvs ∧ Seen kvs least ∧ (kvs.length : Int) < entries ∧
  ∀ m H', StoreAt H' C st dx wl pl room entries m ws kvs → (∀ b, b ≠ st → H' b = H b) → Seen kvs m → valV kvs (.inl m) = none → Q (.int m) H'
theorem ok_Store_free_number (W : WT P K mg base) : FnOk P w K mg base CX0 1 W.f_Store_free_number W.fd_Store_free_number ["self"] (sp_free W.c_Store) := by
  refine W.F_Store_free_number.ok sc_Store_free_number (fun vs H Q E h => ?_) (fun cdv A outer s H vs Q E hr h => ?_)
  · obtain ⟨st, dx, wl, pl, room, entries, least, ws, kvs, rfl, _⟩ := h
    rfl
  · obtain ⟨st, dx, wl, pl, room, entries, least, ws, kvs, rfl, S, hs, hl, k⟩ := h
    have hu1 := hu_of hr
    have hu64 := hu64_of hr
    refine ⟨_, (pss_cons (ps_while PassesOwn.never (pt_cmpR (op_inU hu1) (pe_fld (pv 0) rfl) (pe_fld (pv 0) rfl) (by first | exact nomark _ | rfl)) (pss_one (ps_fld (pv 0) (pe_op op_addU (pe_fld (pv 0) rfl) pe_int) rfl)))
      (pss_cons (ps_if (pt_cmpR op_geU (pe_fld (pv 0) rfl) (pe_fld (pv 0) rfl) (by first | exact nomark _ | rfl)) (pss_one ps_never) pss_nil)
      (pss_one (ps_ret (pe_fld (pv 0) rfl))))), ?_⟩
    refine ⟨fun n σ H' => ∃ m : Int, σ = [some (.ref st)] ∧ StoreAt H' W.c_Store st dx wl pl room entries m ws kvs ∧ (∀ b, b ≠ st → H' b = H b) ∧ Seen kvs m ∧ n = kvs.length - m.toNat, ⟨_, least, rfl, S, fun _ _ => rfl, hs, rfl⟩, ?_⟩
    rintro n σ H' ⟨m, rfl, S1, fr, hs1, rfl⟩
    refine ⟨_, rfl, st, _, dx, _, _, rfl, S1.st, W.C_Store, W.na_Store__least, rfl, ?_⟩
    refine ⟨_, rfl, st, _, dx, _, _, rfl, S1.st, W.C_Store, W.na_Store__places, rfl, ?_⟩
    refine Or.inr ⟨_, DGet.k (k := Sum.inl m) S1.pl, ?_⟩
    refine ⟨_, rfl, ?_⟩
    cases e : valV kvs (.inl m) with
    | some v =>
      refine iteT ?_
      refine ⟨_, fun _ _ z => z, ?_⟩
      refine ⟨_, rfl, st, _, dx, _, _, rfl, S1.st, W.C_Store, W.na_Store__least, rfl, ?_⟩
      refine ⟨_, rfl, st, _, dx, _, rfl, S1.st, W.C_Store, W.na_Store__least, (by show 5 < 1000; decide), ?_⟩
      have n1 : st ≠ pl := ne_of S1.st S1.pl (by intro z; cases z)
      have n3 : st ≠ wl := ne_of S1.st S1.wl (by intro z; cases z)
      have hs2 : Seen kvs (m + 1) := ⟨by have := hs1.1; omega, fun n h0 h1 => by
        by_cases q : n = m
        · subst q; rw [e]; rfl
        · exact hs1.2 n h0 (by omega)⟩
      have l2 := hs2.le
      have l1 := hs1.1
      refine ⟨kvs.length - (m + 1).toNat, by omega, m + 1, rfl, ⟨upd_same, ?_, ?_⟩, fun b hb => ?_, hs2, rfl⟩
      · rw [upd_ne n3.symm]; exact S1.wl
      · rw [upd_ne n1.symm]; exact S1.pl
      · rw [upd_ne hb]; exact fr b hb
    | none =>
      refine iteF ?_
      refine ⟨_, rfl, st, _, dx, _, _, rfl, S1.st, W.C_Store, W.na_Store__least, rfl, ?_⟩
      refine ⟨_, rfl, st, _, dx, _, _, rfl, S1.st, W.C_Store, W.na_Store_entries, rfl, ?_⟩
      refine ⟨_, rfl, ?_⟩
      refine iteD (fun h => ?_) (fun h => ?_)
      · have h : entries ≤ m := h
        have := hs1.le
        omega
      · refine ⟨_, rfl, st, _, dx, _, _, rfl, S1.st, W.C_Store, W.na_Store__least, rfl, ?_⟩
        exact k m H' S1 fr hs1 e
def sp_alloc : Addr → Sp := fun C vs H Q _ => ∃ st dx wl pl room entries least ws kvs, ∃ (x : Int) (z : Nat), vs = [.ref st, .int x, .int (z : Int)] ∧ StoreAt H C st dx wl pl room entries least ws kvs ∧ Seen kvs least ∧ (kvs.length : Int) < entries ∧ entries ≤ 100000 ∧ (ws.length : Int) + 3 + z ≤ room ∧ room ≤ 100000 ∧
  ∀ m H', StoreAt H' C st dx wl pl room entries m (ws ++ (m :: (z : Int) :: x :: List.replicate z 0)) (putK kvs (.inl m) (.int (ws.length : Int))) → Fr [st, wl, pl] H H' → Seen kvs m → valV kvs (.inl m) = none → Q (.int m) H'
theorem rep_int (z : Nat) (x : Int) : (List.replicate z [V.int x]).flatten = (List.replicate z x).map V.int := by
  induction z with
  | zero => rfl
  | succ n ih => rw [List.replicate_succ, List.flatten_cons, ih, List.replicate_succ, List.map_cons] <;> rfl
theorem ok_Store_allocate (W : WT P K mg base) : FnOk P w K mg base CX0 2 W.f_Store_allocate W.fd_Store_allocate ["self", "kind", "size"] (sp_alloc W.c_Store) := by
  refine W.F_Store_allocate.ok sc_Store_allocate (fun vs H Q E h => ?_) (fun cdv A outer s H vs Q E hr h => ?_)
  · obtain ⟨st, dx, wl, pl, room, entries, least, ws, kvs, x, z, rfl, _⟩ := h
    rfl
  · obtain ⟨st, dx, wl, pl, room, entries, least, ws, kvs, x, z, rfl, S, hs, hl, he, hz, hr2, k⟩ := h
    have hu1 := hu_of hr
    have hu64 := hu64_of hr
    refine ⟨_, (pss_cons (ps_if (pt_cmpR op_gtU (pe_op op_addU (pe_op op_addU (pe_callB call_lenU (by rfl) W.n_len bb_len (pa_cons (pe_fld (pv 0) rfl) pa_nil)) (pe_gi rfl W.g_HEADER)) (pv 2)) (pe_fld (pv 0) rfl) (by first | exact nomark _ | rfl)) (pss_one ps_never) pss_nil)
      (pss_cons (ps_set (i := 3) sc_Store_allocate.nd rfl (by first | exact Or.inl rfl | exact Or.inr rfl) (pe_meth0 (pv 0) W.C_Store W.m_Store_free_number (ok_Store_free_number W) (hr.mono (by decide)) W.b_Store_free_number .nil pass0 ))
      (pss_cons (ps_dput hu1 (pe_fld (pv 0) rfl) (pv 3) (pe_callB call_lenU (by rfl) W.n_len bb_len (pa_cons (pe_fld (pv 0) rfl) pa_nil)) rfl)
      (pss_cons (ps_expr (pe_bm PySem.F.plainAttrs_list PySem.F.slot_list_extend PySem.F.type_list_extend mt_extend (pe_fld (pv 0) rfl) (pa_cons (pe_lst (pa_cons (pv 3) (pa_cons (pv 2) (pa_cons (pv 1) pa_nil)))) pa_nil)))
      (pss_cons (ps_expr (pe_bm PySem.F.plainAttrs_list PySem.F.slot_list_extend PySem.F.type_list_extend mt_extend (pe_fld (pv 0) rfl) (pa_cons (pe_op op_mulU (pe_lst (pa_cons (pe_gi rfl W.g_NIL) pa_nil)) (pv 2)) pa_nil)))
      (pss_one (ps_ret (pv 3)))))))), ?_⟩
    refine ⟨_, rfl, st, _, dx, _, _, rfl, S.st, W.C_Store, W.na_Store_words, rfl, ?_⟩
    refine Or.inl ⟨_, Or.inl (SqL.of S.wl), ?_⟩
    rw [List.length_map]
    refine ⟨_, rfl, ?_⟩
    refine ⟨_, rfl, st, _, dx, _, _, rfl, S.st, W.C_Store, W.na_Store_room, rfl, ?_⟩
    refine ⟨_, rfl, ?_⟩
    refine iteD (fun h => ?_) (fun h => ?_)
    · have h : room < (ws.length : Int) + 3 + z := h
      omega
    · refine ⟨_, rfl, st, dx, _, rfl, S.st, rfl, ?_⟩
      refine ⟨st, dx, wl, pl, room, entries, least, ws, kvs, rfl, S, hs, hl, fun m H1 S1 fr hs1 hm => ?_⟩
      have n1 : st ≠ pl := ne_of S1.st S1.pl (by intro z; cases z)
      have n2 : wl ≠ pl := ne_of S1.wl S1.pl (by intro z; cases z)
      have n3 : st ≠ wl := ne_of S1.st S1.wl (by intro z; cases z)
      refine ⟨_, rfl, st, _, dx, _, _, rfl, S1.st, W.C_Store, W.na_Store_words, rfl, ?_⟩
      refine Or.inl ⟨_, Or.inl (SqL.of S1.wl), ?_⟩
      rw [List.length_map]
      refine ⟨_, rfl, st, _, dx, _, _, rfl, S1.st, W.C_Store, W.na_Store__places, rfl, ?_⟩
      refine ⟨_, rfl, pl, _, rfl, DPut.k (k := Sum.inl m) S1.pl (by rw [sizeLine_eq]; omega), ?_⟩
      generalize e2 : upd H1 pl (.dK (putK kvs (Sum.inl m) (.int (ws.length : Int)))) = H2
      have s2 : H2 st = some (.ins W.c_Store dx (sF room entries wl pl m)) := by rw [← e2, upd_ne n1]; exact S1.st
      have w2 : H2 wl = some (.lst (ws.map V.int)) := by rw [← e2, upd_ne n2]; exact S1.wl
      have p2 : H2 pl = some (.dK (putK kvs (Sum.inl m) (.int (ws.length : Int)))) := by rw [← e2]; exact upd_same
      have f2 : Fr [st, wl, pl] H H2 := by
        refine Fr.trans (H1 := H1) (fun b o e n => ?_) (by rw [← e2]; exact Fr.at (by simp))
        rw [fr b (fun z => n (by simp [z]))]; exact e
      refine ⟨_, rfl, st, _, dx, _, _, rfl, s2, W.C_Store, W.na_Store_words, rfl, Or.inl ⟨rfl, _, SqL.of w2⟩, ?_⟩
      refine ⟨_, rfl, _, rfl, _, rfl, (by show 3 ≤ sizeLine; decide), fun q hq => ?_⟩
      have nq : wl ≠ q := ne_of_none w2 hq
      refine ⟨wl, q, _, _, rfl, rfl, (by rw [upd_ne nq]; exact w2), upd_same, (by rw [List.length_map, sizeLine_eq]; show ws.length + 3 ≤ _; omega), ?_⟩
      have ew : ws.map V.int ++ [V.int m, .int (z : Int), .int x] = (ws ++ [m, (z : Int), x]).map V.int := by rw [List.map_append]; rfl
      rw [ew]
      generalize e3 : upd (upd H2 q (.lst [V.int m, .int (z : Int), .int x])) wl (.lst ((ws ++ [m, (z : Int), x]).map V.int)) = H3
      have s3 : H3 st = some (.ins W.c_Store dx (sF room entries wl pl m)) := by rw [← e3, upd_ne n3, upd_ne (ne_of_none s2 hq)]; exact s2
      have w3 : H3 wl = some (.lst ((ws ++ [m, (z : Int), x]).map V.int)) := by rw [← e3]; exact upd_same
      have p3 : H3 pl = some (.dK (putK kvs (Sum.inl m) (.int (ws.length : Int)))) := by rw [← e3, upd_ne n2.symm, upd_ne (ne_of_none p2 hq)]; exact p2
      have f3 : Fr [st, wl, pl] H H3 := by
        rw [← e3]
        exact (f2.trans (Fr.new hq)).trans (Fr.at (by simp))
      refine ⟨_, rfl, st, _, dx, _, _, rfl, s3, W.C_Store, W.na_Store_words, rfl, Or.inl ⟨rfl, _, SqL.of w3⟩, ?_⟩
      refine ⟨(by show 1 ≤ sizeLine; decide), fun q1 hq1 => ?_⟩
      refine ⟨_, rfl, ?_⟩
      refine ⟨q1, (z : Int), _, rfl, rfl, upd_same, by omega, by omega, (by show 1 * ((z : Int)).toNat ≤ _; rw [sizeLine_eq]; omega), fun q2 hq2 => ?_⟩
      rw [Int.toNat_natCast, rep_int]
      have f4 := (f3.trans (Fr.new (o := .lst [V.int 0]) hq1)).trans (Fr.new (o := .lst ((List.replicate z (0 : Int)).map V.int)) hq2)
      generalize e5 : upd (upd H3 q1 (.lst [V.int 0])) q2 (.lst ((List.replicate z (0 : Int)).map V.int)) = H5
      have g5 : ∀ b o, H3 b = some o → H5 b = some o := fun b o e => by
        have h1 : upd H3 q1 (.lst [V.int 0]) b = some o := by rw [upd_ne (ne_of_none e hq1)]; exact e
        rw [← e5, upd_ne (ne_of_none h1 hq2)]; exact h1
      rw [e5] at f4
      refine ⟨wl, q2, _, _, rfl, rfl, g5 _ _ w3, (by rw [← e5]; exact upd_same), (by simp only [List.length_map, List.length_append, List.length_replicate]; rw [sizeLine_eq]; show ws.length + 3 + z ≤ _; omega), ?_⟩
      have ew2 : (ws ++ [m, (z : Int), x]).map V.int ++ (List.replicate z (0 : Int)).map V.int = (ws ++ (m :: (z : Int) :: x :: List.replicate z 0)).map V.int := by rw [← List.map_append, List.append_assoc]; rfl
      rw [ew2]
      refine ⟨_, rfl, ?_⟩
      refine k m _ ⟨?_, upd_same, ?_⟩ (f4.trans (Fr.at (by simp))) hs1 hm
      · rw [upd_ne n3]; exact g5 _ _ s3
      · rw [upd_ne n2.symm]; exact g5 _ _ p3
end

end LX
namespace LX
open PySem PySem.Spec PyProof.Rows L2 NdefX
/-! ### the row of objects, plainly -/
structure Ob where
  num : Int
  kind : Int
  sl : List Int
  live : Bool
def fl (o : Ob) : List Int := o.num :: (o.sl.length : Int) :: o.kind :: o.sl
def flat (O : List Ob) : List Int := O.flatMap fl
def off (O : List Ob) (i : Nat) : Nat := (flat (O.take i)).length
theorem flat_app (A B : List Ob) : flat (A ++ B) = flat A ++ flat B := List.flatMap_append
theorem flat_cons (o : Ob) (B : List Ob) : flat (o :: B) = fl o ++ flat B := List.flatMap_cons
theorem fl_len (o : Ob) : (fl o).length = 3 + o.sl.length := by unfold fl; simp; omega
theorem split_at {α : Type} {l : List α} {i : Nat} {x : α} (h : l[i]? = some x) : l = l.take i ++ x :: l.drop (i + 1) := by
  obtain ⟨hi, e⟩ := List.getElem?_eq_some_iff.mp h
  subst e
  rw [List.getElem_cons_drop, List.take_append_drop]
theorem flat_split {O : List Ob} {i : Nat} {o : Ob} (h : O[i]? = some o) : flat O = flat (O.take i) ++ (fl o ++ flat (O.drop (i + 1))) := by
  rw [← flat_cons, ← flat_app, ← split_at h]
theorem flat_set {O : List Ob} {i : Nat} {o o' : Ob} (h : O[i]? = some o) : flat (O.set i o') = flat (O.take i) ++ (fl o' ++ flat (O.drop (i + 1))) := by
  have hi := (List.getElem?_eq_some_iff.mp h).1
  rw [List.set_eq_take_append_cons_drop, if_pos hi, flat_app, flat_cons]
theorem off_lt {O : List Ob} {i : Nat} {o : Ob} (h : O[i]? = some o) : off O i + 3 + o.sl.length ≤ (flat O).length := by
  have := congrArg List.length (flat_split h)
  rw [List.length_append, List.length_append, fl_len] at this
  unfold off
  omega
theorem at_split {α : Type} {A B l : List α} {k : Nat} (hk : k < l.length) : (A ++ (l ++ B))[A.length + k]? = l[k]? := by
  rw [List.getElem?_append_right (by omega), Nat.add_sub_cancel_left, List.getElem?_append_left hk]
theorem flat_at {O : List Ob} {i k : Nat} {o : Ob} (h : O[i]? = some o) (hk : k < (fl o).length) : (flat O)[off O i + k]? = (fl o)[k]? := by
  have e := flat_split h
  have := at_split (A := flat (O.take i)) (B := flat (O.drop (i + 1))) hk
  rw [← e] at this
  exact this
theorem flat_num {O : List Ob} {i : Nat} {o : Ob} (h : O[i]? = some o) : (flat O)[off O i]? = some o.num := flat_at (k := 0) h (by rw [fl_len]; omega)
theorem flat_size {O : List Ob} {i : Nat} {o : Ob} (h : O[i]? = some o) : (flat O)[off O i + 1]? = some (o.sl.length : Int) := flat_at (k := 1) h (by rw [fl_len]; omega)
theorem flat_kind {O : List Ob} {i : Nat} {o : Ob} (h : O[i]? = some o) : (flat O)[off O i + 2]? = some o.kind := flat_at (k := 2) h (by rw [fl_len]; omega)
theorem flat_slots {O : List Ob} {i : Nat} {o : Ob} (h : O[i]? = some o) : seg (flat O) (off O i + 3) o.sl.length = o.sl := by
  unfold seg
  rw [flat_split h, ← List.drop_drop]
  unfold off
  rw [List.drop_left]
  show ((o.sl ++ flat (O.drop (i + 1))).take _) = _
  rw [List.take_left]
theorem set_split {α : Type} {A B l : List α} {k : Nat} {x : α} (hk : k < l.length) : (A ++ (l ++ B)).set (A.length + k) x = A ++ (l.set k x ++ B) := by
  rw [List.set_append_right _ _ (by omega), Nat.add_sub_cancel_left, List.set_append_left _ _ hk]
theorem set_flat {O : List Ob} {i k : Nat} {o o' : Ob} {x : Int} (h : O[i]? = some o) (hk : k < (fl o).length) (e : (fl o).set k x = fl o') : (flat O).set (off O i + k) x = flat (O.set i o') := by
  rw [flat_set h, ← e]
  have := set_split (A := flat (O.take i)) (B := flat (O.drop (i + 1))) (x := x) hk
  rw [← flat_split h] at this
  exact this
theorem set_num {O : List Ob} {i : Nat} {o : Ob} (x : Int) (h : O[i]? = some o) : (flat O).set (off O i) x = flat (O.set i { o with num := x }) := set_flat (k := 0) h (by rw [fl_len]; omega) rfl
theorem set_kind {O : List Ob} {i : Nat} {o : Ob} (x : Int) (h : O[i]? = some o) : (flat O).set (off O i + 2) x = flat (O.set i { o with kind := x }) := set_flat (k := 2) h (by rw [fl_len]; omega) rfl
theorem set_slot {O : List Ob} {i a : Nat} {o : Ob} (x : Int) (h : O[i]? = some o) (ha : a < o.sl.length) : (flat O).set (off O i + 3 + a) x = flat (O.set i { o with sl := o.sl.set a x }) := by
  have := set_flat (k := 3 + a) (o' := { o with sl := o.sl.set a x }) (x := x) h (by rw [fl_len]; omega) (by
    unfold fl
    rw [show 3 + a = a + 1 + 1 + 1 by omega]
    simp)
  rw [← this, Nat.add_assoc]
theorem flat_kill {O : List Ob} {i : Nat} {o : Ob} (h : O[i]? = some o) (b : Bool) : flat (O.set i { o with live := b }) = flat O := by
  rw [flat_set h, flat_split h]; rfl
theorem off_set {O : List Ob} {i j : Nat} {o o' : Ob} (h : O[i]? = some o) (hl : o'.sl.length = o.sl.length) : off (O.set i o') j = off O j := by
  unfold off
  rw [List.take_set]
  by_cases hij : i < j
  · have h' : (O.take j)[i]? = some o := by rw [List.getElem?_take, if_pos hij]; exact h
    rw [flat_set h', flat_split h', List.length_append, List.length_append, List.length_append, List.length_append, fl_len, fl_len, hl]
  · rw [List.set_eq_of_length_le (by rw [List.length_take]; omega)]
theorem off_app {O B : List Ob} {i : Nat} (h : i ≤ O.length) : off (O ++ B) i = off O i := by
  unfold off
  rw [List.take_append_of_le_length h]
theorem off_end {O : List Ob} : off O O.length = (flat O).length := by unfold off; rw [List.take_length]
/-! ### tables -/
section
variable {κ : Type} [DecidableEq κ]
theorem valV_drop (k j : κ) : ∀ kvs : List (κ × V), valV (dropK kvs k) j = if j = k then none else valV kvs j
  | [] => by simp [dropK, valV]
  | p :: r => by
    have ih := valV_drop k j r
    unfold dropK at ih ⊢
    by_cases e : p.1 = k
    · rw [List.filter_cons_of_neg (by simp [e]), ih]
      by_cases hj : j = k
      · rw [if_pos hj, if_pos hj]
      · rw [if_neg hj, if_neg hj, valV_neg (fun z => hj (z.symm.trans e))]
    · rw [List.filter_cons_of_pos (by simp [e])]
      by_cases hp : p.1 = j
      · rw [valV_pos hp, valV_pos hp, if_neg (fun z => e (hp.trans z))]
      · rw [valV_neg hp, valV_neg hp, ih]
theorem nd_drop {kvs : List (κ × V)} {k : κ} (h : (kvs.map (·.1)).Nodup) : ((dropK kvs k).map (·.1)).Nodup := h.sublist (List.Sublist.map _ List.filter_sublist)
theorem mem_val {kvs : List (κ × V)} {k : κ} (h : k ∈ kvs.map (·.1)) : ∃ v, valV kvs k = some v := by
  obtain ⟨p, hp, e⟩ := List.mem_map.mp h
  have : (valV kvs k).isSome = true := by
    rw [← valV_any]
    exact List.any_eq_true.mpr ⟨p, hp, decide_eq_true e⟩
  exact Option.isSome_iff_exists.mp this
theorem nd_put {kvs : List (κ × V)} {k : κ} {v : V} (h : (kvs.map (·.1)).Nodup) : ((putK kvs k v).map (·.1)).Nodup := by
  unfold putK
  split
  · have e : ∀ l : List (κ × V), (l.map (fun kv => if kv.1 = k then (kv.1, v) else kv)).map (·.1) = l.map (·.1) := by
      intro l
      rw [List.map_map]
      apply List.map_congr_left
      intro a _
      show (if a.1 = k then (a.1, v) else a).1 = a.1
      split <;> rfl
    rw [e]; exact h
  · rename_i hn
    rw [List.map_append]
    refine List.nodup_append.mpr ⟨h, by simp, fun a ha b hb e => ?_⟩
    subst e
    have hb : a = k := by simpa using hb
    subst hb
    obtain ⟨v, hv⟩ := mem_val ha
    rw [valV_any, hv] at hn
    exact hn rfl
end
/-- the table and the words tell the row -/
structure Good (O : List Ob) (kvs : List (Key × V)) (least : Int) : Prop where
  val : ∀ k v, valV kvs k = some v ↔ ∃ i o, O[i]? = some o ∧ o.live = true ∧ k = .inl o.num ∧ v = .int (off O i : Nat)
  nd : (kvs.map (·.1)).Nodup
  un : ∀ (i j : Nat) (o o' : Ob), O[i]? = some o → O[j]? = some o' → o.live = true → o'.live = true → o.num = o'.num → i = j
  seen : Seen kvs least
theorem Good.at {O : List Ob} {kvs : List (Key × V)} {least : Int} (G : Good O kvs least) {i : Nat} {o : Ob} (h : O[i]? = some o) (hl : o.live = true) : valV kvs (.inl o.num) = some (.int (off O i : Nat)) := (G.val _ _).mpr ⟨i, o, h, hl, rfl, rfl⟩
theorem Good.ints {O : List Ob} {kvs : List (Key × V)} {least : Int} (G : Good O kvs least) : ∃ ns : List Int, kvs.map (·.1) = ns.map Sum.inl ∧ ns.Perm ((O.filter (·.live)).map (·.num)) := by
  have hk : ∀ k ∈ kvs.map (·.1), ∃ n, k = Sum.inl n := fun k hk => by
    obtain ⟨v, hv⟩ := mem_val hk
    obtain ⟨i, o, _, _, e, _⟩ := (G.val _ _).mp hv
    exact ⟨_, e⟩
  obtain ⟨ns, hns⟩ : ∃ ns : List Int, kvs.map (·.1) = ns.map Sum.inl := by
    generalize kvs.map (·.1) = l at hk
    induction l with
    | nil => exact ⟨[], rfl⟩
    | cons a r ih =>
      obtain ⟨n, e⟩ := hk a List.mem_cons_self
      obtain ⟨m, em⟩ := ih fun k h => hk k (List.mem_cons_of_mem _ h)
      exact ⟨n :: m, by rw [e, em]; rfl⟩
  refine ⟨ns, hns, ?_⟩
  have nd1 : ns.Nodup := by
    have := G.nd
    rw [hns] at this
    exact (List.pairwise_map.mp this).imp fun h e => h (by rw [e])
  have nd2 : ((O.filter (·.live)).map (·.num)).Nodup := by
    have key : ∀ (l : List Ob), (∀ (i j : Nat) (o o' : Ob), l[i]? = some o → l[j]? = some o' → o.live = true → o'.live = true → o.num = o'.num → i = j) → ((l.filter (·.live)).map (·.num)).Nodup := by
      intro l
      induction l with
      | nil => intro _; exact List.nodup_nil
      | cons a r ih =>
        intro h
        have ihr := ih fun i j o o' h1 h2 l1 l2 e => by
          have := h (i + 1) (j + 1) o o' h1 h2 l1 l2 e
          omega
        by_cases ha : a.live = true
        · rw [List.filter_cons_of_pos (by exact ha), List.map_cons]
          refine List.nodup_cons.mpr ⟨fun hm => ?_, ihr⟩
          obtain ⟨o, ho, e⟩ := List.mem_map.mp hm
          obtain ⟨h1, h2⟩ := List.mem_filter.mp ho
          obtain ⟨j, hj⟩ := List.getElem?_of_mem h1
          have := h 0 (j + 1) a o rfl hj ha h2 e.symm
          omega
        · rw [List.filter_cons_of_neg (by exact ha)]
          exact ihr
    exact key O G.un
  refine (List.perm_ext_iff_of_nodup nd1 nd2).mpr fun n => ?_
  have h1 : n ∈ ns ↔ (Sum.inl n : Key) ∈ kvs.map (·.1) := by
    rw [hns]
    constructor
    · exact fun h => List.mem_map.mpr ⟨n, h, rfl⟩
    · intro h
      obtain ⟨m, hm, e⟩ := List.mem_map.mp h
      cases e
      exact hm
  rw [h1]
  constructor
  · intro h
    obtain ⟨v, hv⟩ := mem_val h
    obtain ⟨i, o, q1, q2, q3, _⟩ := (G.val _ _).mp hv
    cases q3
    exact List.mem_map.mpr ⟨o, List.mem_filter.mpr ⟨List.mem_of_getElem? q1, q2⟩, rfl⟩
  · intro h
    obtain ⟨o, ho, e⟩ := List.mem_map.mp h
    obtain ⟨h1, h2⟩ := List.mem_filter.mp ho
    obtain ⟨i, hi⟩ := List.getElem?_of_mem h1
    have := val_mem (G.at hi h2)
    rw [e] at this
    exact List.mem_map.mpr ⟨_, this, rfl⟩
theorem set_get {O : List Ob} {i j : Nat} {o o' : Ob} (h : O[i]? = some o) : (O.set i o')[j]? = if j = i then some o' else O[j]? := by
  have hi := (List.getElem?_eq_some_iff.mp h).1
  rw [List.getElem?_set]
  by_cases e : i = j
  · subst e; simp [hi]
  · rw [if_neg e, if_neg (Ne.symm e)]
/-- the contents of an object change -/
theorem Good.same {O : List Ob} {kvs : List (Key × V)} {least : Int} (G : Good O kvs least) {i : Nat} {o o' : Ob} (h : O[i]? = some o) (hn : o'.num = o.num) (hv : o'.live = o.live) (hl : o'.sl.length = o.sl.length) : Good (O.set i o') kvs least := by
  refine ⟨fun k v => ?_, G.nd, fun a b x y ha hb la lb e => ?_, G.seen⟩
  · rw [G.val k v]
    constructor
    · rintro ⟨j, x, hj, lx, rfl, rfl⟩
      by_cases e : j = i
      · subst e
        rw [h] at hj; cases hj
        exact ⟨j, o', by rw [set_get h, if_pos rfl], by rw [hv]; exact lx, by rw [hn], by rw [off_set h hl]⟩
      · exact ⟨j, x, by rw [set_get h, if_neg e]; exact hj, lx, rfl, by rw [off_set h hl]⟩
    · rintro ⟨j, x, hj, lx, rfl, rfl⟩
      rw [set_get h] at hj
      rw [off_set h hl]
      by_cases e : j = i
      · subst e
        rw [if_pos rfl] at hj; cases hj
        exact ⟨j, o, h, by rw [← hv]; exact lx, by rw [hn], rfl⟩
      · rw [if_neg e] at hj
        exact ⟨j, x, hj, lx, rfl, rfl⟩
  · have g : ∀ (a : Nat) (x : Ob), (O.set i o')[a]? = some x → ∃ z, O[a]? = some z ∧ z.live = x.live ∧ z.num = x.num := fun a x ha => by
      rw [set_get h] at ha
      by_cases e : a = i
      · subst e; rw [if_pos rfl] at ha; cases ha
        exact ⟨o, h, hv.symm, hn.symm⟩
      · rw [if_neg e] at ha; exact ⟨x, ha, rfl, rfl⟩
    obtain ⟨z1, q1, q2, q3⟩ := g a x ha
    obtain ⟨z2, r1, r2, r3⟩ := g b y hb
    exact G.un a b z1 z2 q1 r1 (q2.trans la) (r2.trans lb) (by rw [q3, r3, e])
theorem Good.kill {O : List Ob} {kvs : List (Key × V)} {least : Int} (G : Good O kvs least) {i : Nat} {o : Ob} (h : O[i]? = some o) (ho : o.live = true) (hn : 0 ≤ o.num) :
    Good (O.set i { o with live := false }) (dropK kvs (.inl o.num)) (if o.num < least then o.num else least) := by
  refine ⟨fun k v => ?_, nd_drop G.nd, fun a b x y ha hb la lb e => ?_, ?_⟩
  · rw [valV_drop]
    constructor
    · intro hv
      split at hv
      · cases hv
      · rename_i hk
        obtain ⟨j, x, hj, lx, rfl, rfl⟩ := (G.val _ _).mp hv
        have e : j ≠ i := fun e => by subst e; rw [h] at hj; cases hj; exact hk rfl
        exact ⟨j, x, by rw [set_get h, if_neg e]; exact hj, lx, rfl, by rw [off_set (o' := { o with live := false }) h rfl]⟩
    · rintro ⟨j, x, hj, lx, rfl, rfl⟩
      rw [set_get h] at hj
      rw [off_set (o' := { o with live := false }) h rfl]
      by_cases e : j = i
      · subst e; rw [if_pos rfl] at hj; cases hj; cases lx
      · rw [if_neg e] at hj
        rw [if_neg (fun z => e (G.un j i x o hj h lx ho (Sum.inl.inj z)))]
        exact (G.val _ _).mpr ⟨j, x, hj, lx, rfl, rfl⟩
  · have g : ∀ (a : Nat) (x : Ob), x.live = true → (O.set i { o with live := false })[a]? = some x → O[a]? = some x := fun a x lx ha => by
      rw [set_get h] at ha
      by_cases e : a = i
      · subst e; rw [if_pos rfl] at ha; cases ha; cases lx
      · rw [if_neg e] at ha; exact ha
    exact G.un a b x y (g a x la ha) (g b y lb hb) la lb e
  · have hs := G.seen
    refine ⟨by split; exact hn; exact hs.1, fun n h0 h1 => ?_⟩
    rw [valV_drop]
    have h2 : n < o.num ∧ n < least ∨ ¬ o.num < least ∧ n < least := by split at h1 <;> omega
    rw [if_neg (fun z => by have := Sum.inl.inj z; omega)]
    exact hs.2 n h0 (by omega)
def swapO (O : List Ob) (i j : Nat) (a b : Ob) : List Ob := (O.set i { a with num := b.num }).set j { b with num := a.num }
theorem swap_get {O : List Ob} {i j k : Nat} {a b : Ob} (ha : O[i]? = some a) (hb : O[j]? = some b) : (swapO O i j a b)[k]? = if k = j then some { b with num := a.num } else if k = i then some { a with num := b.num } else O[k]? := by
  unfold swapO
  have hj : (O.set i { a with num := b.num })[j]? = some (if j = i then { a with num := b.num } else b) := by
    rw [set_get ha]
    split
    · rfl
    · exact hb
  rw [set_get hj, set_get ha]
theorem swap_off {O : List Ob} {i j k : Nat} {a b : Ob} (ha : O[i]? = some a) (hb : O[j]? = some b) : off (swapO O i j a b) k = off O k := by
  unfold swapO
  have hj : (O.set i { a with num := b.num })[j]? = some (if j = i then { a with num := b.num } else b) := by
    rw [set_get ha]
    split
    · rfl
    · exact hb
  rw [off_set hj, off_set ha] <;> (try rfl)
  split
  · rename_i e; subst e; rw [ha] at hb; cases hb; rfl
  · rfl
theorem swap_flat {O : List Ob} {i j : Nat} {a b : Ob} (ha : O[i]? = some a) (hb : O[j]? = some b) : ((flat O).set (off O i) b.num).set (off O j) a.num = flat (swapO O i j a b) := by
  have hj : (O.set i { a with num := b.num })[j]? = some (if j = i then { a with num := b.num } else b) := by
    rw [set_get ha]
    split
    · rfl
    · exact hb
  rw [set_num b.num ha]
  have e : off O j = off (O.set i { a with num := b.num }) j := (off_set (o' := { a with num := b.num }) ha rfl).symm
  rw [e, set_num a.num hj]
  unfold swapO
  congr 1
  by_cases q : j = i
  · subst q; rw [ha] at hb; cases hb
    rw [if_pos rfl]
  · rw [if_neg q]
theorem Good.swap {O : List Ob} {kvs : List (Key × V)} {least : Int} (G : Good O kvs least) {i j : Nat} {a b : Ob} (ha : O[i]? = some a) (hb : O[j]? = some b) (la : a.live = true) (lb : b.live = true) :
    Good (swapO O i j a b) (putK (putK kvs (.inl a.num) (.int (off O j : Nat))) (.inl b.num) (.int (off O i : Nat))) least := by
  have vv : ∀ k, valV (putK (putK kvs (.inl a.num) (.int (off O j : Nat))) (.inl b.num) (.int (off O i : Nat))) k = if k = .inl b.num then some (.int (off O i : Nat)) else if k = .inl a.num then some (.int (off O j : Nat)) else valV kvs k := fun k => by rw [valV_put, valV_put]
  refine ⟨fun k v => ?_, nd_put (nd_put G.nd), fun p q x y hp hq lx ly e => ?_, G.seen.1, fun n h0 h1 => ?_⟩
  · rw [vv]
    constructor
    · intro hv
      split at hv
      · rename_i hk
        cases hv
        by_cases q : i = j
        · subst q; rw [ha] at hb; cases hb
          exact ⟨i, { a with num := a.num }, by rw [swap_get ha ha, if_pos rfl], la, hk, by rw [swap_off ha ha]⟩
        · exact ⟨i, { a with num := b.num }, by rw [swap_get ha hb, if_neg q, if_pos rfl], la, hk, by rw [swap_off ha hb]⟩
      · split at hv
        · rename_i hk
          cases hv
          exact ⟨j, { b with num := a.num }, by rw [swap_get ha hb, if_pos rfl], lb, hk, by rw [swap_off ha hb]⟩
        · rename_i k1 k2
          obtain ⟨m, x, hm, lx, rfl, rfl⟩ := (G.val _ _).mp hv
          have e1 : m ≠ j := fun e => by subst e; rw [hb] at hm; cases hm; exact k1 rfl
          have e2 : m ≠ i := fun e => by subst e; rw [ha] at hm; cases hm; exact k2 rfl
          exact ⟨m, x, by rw [swap_get ha hb, if_neg e1, if_neg e2]; exact hm, lx, rfl, by rw [swap_off ha hb]⟩
    · rintro ⟨m, x, hm, lx, rfl, rfl⟩
      rw [swap_get ha hb] at hm
      rw [swap_off ha hb]
      by_cases e1 : m = j
      · subst e1
        rw [if_pos rfl] at hm; cases hm
        by_cases q : a.num = b.num
        · have := G.un i m a b ha hb la lb q
          subst this
          rw [if_pos (by rw [q])]
        · rw [if_neg (fun z => q (Sum.inl.inj z)), if_pos rfl]
      · rw [if_neg e1] at hm
        by_cases e2 : m = i
        · subst e2
          rw [if_pos rfl] at hm; cases hm
          rw [if_pos rfl]
        · rw [if_neg e2] at hm
          rw [if_neg (fun z => e1 (G.un m j x b hm hb lx lb (Sum.inl.inj z))), if_neg (fun z => e2 (G.un m i x a hm ha lx la (Sum.inl.inj z)))]
          exact (G.val _ _).mpr ⟨m, x, hm, lx, rfl, rfl⟩
  · rw [swap_get ha hb] at hp hq
    by_cases p1 : p = j <;> by_cases q1 : q = j
    · omega
    · subst p1
      rw [if_pos rfl] at hp; cases hp
      rw [if_neg q1] at hq
      by_cases q2 : q = i
      · subst q2; rw [if_pos rfl] at hq; cases hq
        exact (G.un q p a b ha hb la lb e).symm
      · rw [if_neg q2] at hq
        exact absurd (G.un i q a y ha hq la ly e).symm q2
    · subst q1
      rw [if_pos rfl] at hq; cases hq
      rw [if_neg p1] at hp
      by_cases p2 : p = i
      · subst p2; rw [if_pos rfl] at hp; cases hp
        exact G.un p q a b ha hb la lb e.symm
      · rw [if_neg p2] at hp
        exact absurd (G.un p i x a hp ha lx la e) p2
    · rw [if_neg p1] at hp
      rw [if_neg q1] at hq
      by_cases p2 : p = i <;> by_cases q2 : q = i
      · omega
      · subst p2; rw [if_pos rfl] at hp; cases hp
        rw [if_neg q2] at hq
        exact absurd (G.un j q b y hb hq lb ly e).symm q1
      · subst q2; rw [if_pos rfl] at hq; cases hq
        rw [if_neg p2] at hp
        exact absurd (G.un p j x b hp hb lx lb e) p1
      · rw [if_neg p2] at hp; rw [if_neg q2] at hq
        exact G.un p q x y hp hq lx ly e
  · rw [vv]
    split
    · rfl
    · split
      · rfl
      · exact G.seen.2 n h0 h1
theorem Good.add {O : List Ob} {kvs : List (Key × V)} {least : Int} (G : Good O kvs least) {o : Ob} (ho : o.live = true) (hn : valV kvs (.inl o.num) = none) (hs : Seen kvs o.num) :
    Good (O ++ [o]) (putK kvs (.inl o.num) (.int (flat O).length)) o.num := by
  have no : ∀ (i : Nat) (x : Ob), O[i]? = some x → x.live = true → x.num ≠ o.num := fun i x hi lx e => by
    have := G.at hi lx
    rw [e, hn] at this
    cases this
  have ga : ∀ k : Nat, (O ++ [o])[k]? = if k < O.length then O[k]? else if k = O.length then some o else none := fun k => by
    by_cases h : k < O.length
    · rw [if_pos h, List.getElem?_append_left h]
    · rw [if_neg h, List.getElem?_append_right (by omega)]
      by_cases h2 : k = O.length
      · rw [if_pos h2, h2, Nat.sub_self]; rfl
      · rw [if_neg h2]
        exact List.getElem?_eq_none_iff.mpr (by simp; omega)
  refine ⟨fun k v => ?_, nd_put G.nd, fun p q x y hp hq lx ly e => ?_, hs.1, fun n h0 h1 => ?_⟩
  · rw [valV_put]
    constructor
    · intro hv
      split at hv
      · rename_i hk
        cases hv
        exact ⟨O.length, o, by rw [ga, if_neg (by omega), if_pos rfl], ho, hk, by rw [off_app (Nat.le_refl _), off_end]⟩
      · obtain ⟨m, x, hm, lx, rfl, rfl⟩ := (G.val _ _).mp hv
        have hl := (List.getElem?_eq_some_iff.mp hm).1
        exact ⟨m, x, by rw [ga, if_pos hl]; exact hm, lx, rfl, by rw [off_app (by omega)]⟩
    · rintro ⟨m, x, hm, lx, rfl, rfl⟩
      rw [ga] at hm
      by_cases hl : m < O.length
      · rw [if_pos hl] at hm
        rw [off_app (by omega), if_neg (fun z => no m x hm lx (Sum.inl.inj z))]
        exact (G.val _ _).mpr ⟨m, x, hm, lx, rfl, rfl⟩
      · rw [if_neg hl] at hm
        split at hm
        · rename_i e; cases hm
          rw [if_pos rfl, e, off_app (Nat.le_refl _), off_end]
        · cases hm
  · rw [ga] at hp hq
    split at hp
    · split at hq
      · exact G.un p q x y hp hq lx ly e
      · split at hq
        · cases hq; exact absurd e (no p x hp lx)
        · cases hq
    · split at hp
      · cases hp
        split at hq
        · exact absurd e.symm (no q y hq ly)
        · split at hq
          · omega
          · cases hq
      · cases hp
  · rw [valV_put]
    split
    · rfl
    · exact hs.2 n h0 h1

end LX
namespace LX
open PySem PySem.Spec PyProof.Rows L2 NdefX
structure RowAt (H : Hp) (rl : Addr) (A : List (Addr × Addr)) (O : List Ob) : Prop where
  rl : H rl = some (.lst (A.map fun a => V.ref a.1))
  len : A.length = O.length
  it : ∀ (i : Nat) (a : Addr × Addr) (o : Ob), A[i]? = some a → O[i]? = some o → H a.1 = some (.lst [.int o.num, .int o.kind, .ref a.2, .bl o.live]) ∧ H a.2 = some (.lst (o.sl.map V.int))
structure Sep (A : List (Addr × Addr)) (rl : Addr) (X : List Addr) : Prop where
  d1 : ∀ (i j : Nat) (a b : Addr × Addr), A[i]? = some a → A[j]? = some b → (a.1 = b.1 ∨ a.2 = b.2) → i = j
  d2 : ∀ a b, a ∈ A → b ∈ A → a.1 ≠ b.2
  d3 : ∀ a ∈ A, a.1 ≠ rl ∧ a.2 ≠ rl
  d4 : rl ∉ X
  d5 : ∀ a ∈ A, a.1 ∉ X ∧ a.2 ∉ X
theorem RowAt.keep {H H' : Hp} {rl : Addr} {A : List (Addr × Addr)} {O : List Ob} {F : List Addr} (R : RowAt H rl A O) (f : Fr F H H') (h1 : rl ∉ F) (h2 : ∀ a ∈ A, a.1 ∉ F ∧ a.2 ∉ F) : RowAt H' rl A O :=
  ⟨f _ _ R.rl h1, R.len, fun i a o ha ho => ⟨f _ _ (R.it i a o ha ho).1 (h2 a (List.mem_of_getElem? ha)).1, f _ _ (R.it i a o ha ho).2 (h2 a (List.mem_of_getElem? ha)).2⟩⟩
theorem RowAt.mono {H H' : Hp} {rl : Addr} {A : List (Addr × Addr)} {O : List Ob} (R : RowAt H rl A O) (f : Fr [] H H') : RowAt H' rl A O := R.keep f (by simp) (by simp)
theorem RowAt.get {H : Hp} {rl : Addr} {A : List (Addr × Addr)} {O : List Ob} (R : RowAt H rl A O) {i : Nat} {o : Ob} (h : O[i]? = some o) : ∃ a, A[i]? = some a ∧ H a.1 = some (.lst [.int o.num, .int o.kind, .ref a.2, .bl o.live]) ∧ H a.2 = some (.lst (o.sl.map V.int)) := by
  have hi := (List.getElem?_eq_some_iff.mp h).1
  have hA : i < A.length := by rw [R.len]; exact hi
  exact ⟨A[i], List.getElem?_eq_getElem hA, R.it i _ o (List.getElem?_eq_getElem hA) h⟩
theorem RowAt.set {H H' : Hp} {rl : Addr} {A : List (Addr × Addr)} {O : List Ob} {X : List Addr} (R : RowAt H rl A O) (D : Sep A rl X) {i : Nat} {a : Addr × Addr} {o o' : Ob} (ha : A[i]? = some a) (ho : O[i]? = some o)
    (h1 : H' a.1 = some (.lst [.int o'.num, .int o'.kind, .ref a.2, .bl o'.live])) (h2 : H' a.2 = some (.lst (o'.sl.map V.int))) (f : Fr (a.1 :: a.2 :: X) H H') : RowAt H' rl A (O.set i o') := by
  have ma := List.mem_of_getElem? ha
  refine ⟨f _ _ R.rl (by have := D.d3 a ma; simp [this.1.symm, this.2.symm, D.d4]), by rw [List.length_set]; exact R.len, fun j b x hb hx => ?_⟩
  rw [set_get ho] at hx
  by_cases e : j = i
  · subst e
    rw [if_pos rfl] at hx; cases hx
    rw [ha] at hb; cases hb
    exact ⟨h1, h2⟩
  · rw [if_neg e] at hx
    have mb := List.mem_of_getElem? hb
    have n1 : b.1 ≠ a.1 := fun z => e (D.d1 j i b a hb ha (Or.inl z))
    have n2 : b.2 ≠ a.2 := fun z => e (D.d1 j i b a hb ha (Or.inr z))
    have n3 : b.1 ≠ a.2 := D.d2 b a mb ma
    have n4 : b.2 ≠ a.1 := (D.d2 a b ma mb).symm
    obtain ⟨q1, q2⟩ := R.it j b x hb hx
    exact ⟨f _ _ q1 (by simp [n1, n3, (D.d5 b mb).1]), f _ _ q2 (by simp [n2, n4, (D.d5 b mb).2])⟩
def ad (A : List (Addr × Addr)) : List Addr := A.flatMap fun a => [a.1, a.2]
theorem ad_mem {A : List (Addr × Addr)} {a : Addr × Addr} (h : a ∈ A) : a.1 ∈ ad A ∧ a.2 ∈ ad A :=
  ⟨List.mem_flatMap.mpr ⟨a, h, by simp⟩, List.mem_flatMap.mpr ⟨a, h, by simp⟩⟩
def Zl (A : List (Addr × Addr)) (O : List Ob) : List ((Addr × Addr) × Ob) := (A.zip O).filter (·.2.live)
theorem Zl_get {A : List (Addr × Addr)} {O : List Ob} {z : (Addr × Addr) × Ob} (h : z ∈ Zl A O) : ∃ i : Nat, A[i]? = some z.1 ∧ O[i]? = some z.2 ∧ z.2.live = true := by
  obtain ⟨h1, h2⟩ := List.mem_filter.mp h
  obtain ⟨i, hi⟩ := List.getElem?_of_mem h1
  obtain ⟨q1, q2⟩ := List.getElem?_zip_eq_some.mp hi
  exact ⟨i, q1, q2, h2⟩
theorem Zl_snd {A : List (Addr × Addr)} {O : List Ob} (h : A.length = O.length) : (Zl A O).map (·.2) = O.filter (·.live) := by
  unfold Zl
  have : ∀ (A : List (Addr × Addr)) (O : List Ob), A.length = O.length → ((A.zip O).filter (·.2.live)).map (·.2) = O.filter (·.live) := by
    intro A
    induction A with
    | nil => intro O h; cases O with
      | nil => rfl
      | cons => simp at h
    | cons a r ih => intro O h; cases O with
      | nil => simp at h
      | cons o t =>
        have := ih t (by simpa using h)
        rw [List.zip_cons_cons]
        by_cases q : o.live = true
        · rw [List.filter_cons_of_pos (by exact q), List.filter_cons_of_pos (by exact q), List.map_cons, this]
        · rw [List.filter_cons_of_neg (by exact q), List.filter_cons_of_neg (by exact q), this]
  exact this A O h
theorem take_filter_yes {α : Type} {l : List α} {p : α → Bool} {i : Nat} {x : α} (h : l[i]? = some x) (hp : p x = true) : (l.take (i + 1)).filter p = (l.take i).filter p ++ [x] := by
  rw [List.take_succ, h, List.filter_append]
  simp [hp]
theorem take_filter_no {α : Type} {l : List α} {p : α → Bool} {i : Nat} {x : α} (h : l[i]? = some x) (hp : p x = false) : (l.take (i + 1)).filter p = (l.take i).filter p := by
  rw [List.take_succ, h, List.filter_append]
  simp [hp]
section
variable {P : Program} {w : World} {K : PySem.W.Frag} {mg : Str → Option Value} {base : Heap}
theorem flat_take {O : List Ob} {i : Nat} {o : Ob} (h : O[i]? = some o) : flat (O.take (i + 1)) = flat (O.take i) ++ [o.num, (o.sl.length : Int), o.kind] ++ o.sl := by
  rw [List.take_succ, h, flat_app]
  show flat (O.take i) ++ (fl o ++ []) = _
  rw [List.append_nil, List.append_assoc]
  rfl
end

end LX
namespace LX
open PySem PySem.Spec PyProof.Rows L2 NdefX
theorem Fr.of {F : List Addr} {H H' : Hp} {x y : Addr} (h : ∀ b, b ≠ x → b ≠ y → H' b = H b) (hx : x ∈ F) (hy : y ∈ F) : Fr F H H' := fun b o e n => by
  rw [h b (fun z => n (by rw [z]; exact hx)) (fun z => n (by rw [z]; exact hy))]; exact e
theorem StoreAt.keep {H H' : Hp} {C st dx wl pl : Addr} {room entries least : Int} {ws : List Int} {kvs : List (Key × V)} {F : List Addr} (S : StoreAt H C st dx wl pl room entries least ws kvs) (f : Fr F H H') (h : ∀ b, b ∈ [st, wl, pl] → b ∉ F) : StoreAt H' C st dx wl pl room entries least ws kvs :=
  ⟨f _ _ S.st (h _ (by simp)), f _ _ S.wl (h _ (by simp)), f _ _ S.pl (h _ (by simp))⟩
theorem RowAt.setItem {H H' : Hp} {rl : Addr} {A : List (Addr × Addr)} {O : List Ob} {X : List Addr} (R : RowAt H rl A O) (D : Sep A rl X) {i : Nat} {a : Addr × Addr} {o o' : Ob} (ha : A[i]? = some a) (ho : O[i]? = some o) (hs : o'.sl = o.sl)
    (h1 : H' a.1 = some (.lst [.int o'.num, .int o'.kind, .ref a.2, .bl o'.live])) (f : Fr (a.1 :: X) H H') : RowAt H' rl A (O.set i o') := by
  have ma := List.mem_of_getElem? ha
  refine R.set D ha ho h1 ?_ (f.mono fun b hb => by rcases List.mem_cons.mp hb with h | h <;> simp [h])
  rw [hs]
  exact f _ _ (R.it i a o ha ho).2 (by simp [(D.d2 a a ma ma).symm, (D.d5 a ma).2])
theorem RowAt.setSl {H H' : Hp} {rl : Addr} {A : List (Addr × Addr)} {O : List Ob} {X : List Addr} (R : RowAt H rl A O) (D : Sep A rl X) {i : Nat} {a : Addr × Addr} {o o' : Ob} (ha : A[i]? = some a) (ho : O[i]? = some o) (hn : o'.num = o.num) (hk : o'.kind = o.kind) (hv : o'.live = o.live)
    (h2 : H' a.2 = some (.lst (o'.sl.map V.int))) (f : Fr (a.2 :: X) H H') : RowAt H' rl A (O.set i o') := by
  have ma := List.mem_of_getElem? ha
  refine R.set D ha ho ?_ h2 (f.mono fun b hb => by rcases List.mem_cons.mp hb with h | h <;> simp [h])
  rw [hn, hk, hv]
  exact f _ _ (R.it i a o ha ho).1 (by simp [(D.d2 a a ma ma), (D.d5 a ma).1])
/-- the store and the row of the law -/
structure Law4 (C : Addr) (H : Hp) (st dx wl pl rl : Addr) (A : List (Addr × Addr)) (O : List Ob) (kvs : List (Key × V)) (least : Int) : Prop where
  S : StoreAt H C st dx wl pl 100000 100000 least (flat O) kvs
  G : Good O kvs least
  R : RowAt H rl A O
  D : Sep A rl [st, wl, pl]
  sz : ∀ o ∈ O, o.sl.length ≤ 99
  nn : ∀ o ∈ O, 0 ≤ o.num
theorem Law4.keep {C : Addr} {H H' : Hp} {st dx wl pl rl : Addr} {A : List (Addr × Addr)} {O : List Ob} {kvs : List (Key × V)} {least : Int} (L : Law4 C H st dx wl pl rl A O kvs least) (f : Fr [] H H') : Law4 C H' st dx wl pl rl A O kvs least :=
  ⟨L.S.keep f (by simp), L.G, L.R.mono f, L.D, L.sz, L.nn⟩
theorem flat_len {O : List Ob} (h : ∀ o ∈ O, o.sl.length ≤ 99) : (flat O).length ≤ 102 * O.length := by
  induction O with
  | nil => exact Nat.zero_le _
  | cons o r ih =>
    have := ih fun x hx => h x (List.mem_cons_of_mem _ hx)
    have := h o List.mem_cons_self
    rw [flat_cons, List.length_append, fl_len, List.length_cons]
    omega
theorem Good.kl {O : List Ob} {kvs : List (Key × V)} {least : Int} (G : Good O kvs least) : kvs.length ≤ O.length := by
  obtain ⟨ns, h1, h2⟩ := G.ints
  have e := congrArg List.length h1
  rw [List.length_map, List.length_map, h2.length_eq, List.length_map] at e
  have := List.length_filter_le (fun o : Ob => o.live) O
  omega
theorem pick {A : List (Addr × Addr)} {O : List Ob} (y : Int) (h : Zl A O ≠ []) : ∃ (z : (Addr × Addr) × Ob) (i : Nat), atI ((Zl A O).map fun z => V.ref z.1.1) (y % ((Zl A O).length : Int)) = some (V.ref z.1.1) ∧ A[i]? = some z.1 ∧ O[i]? = some z.2 ∧ z.2.live = true := by
  have hp : 0 < (Zl A O).length := List.length_pos_iff.mpr h
  have e1 := Int.emod_nonneg y (by omega : ((Zl A O).length : Int) ≠ 0)
  have e2 := Int.emod_lt_of_pos y (by omega : (0 : Int) < ((Zl A O).length : Int))
  generalize y % ((Zl A O).length : Int) = d at e1 e2
  have hi : d.toNat < (Zl A O).length := by omega
  obtain ⟨i, q1, q2, q3⟩ := Zl_get (List.getElem_mem hi)
  refine ⟨(Zl A O)[d.toNat], i, ?_, q1, q2, q3⟩
  have e : ((d.toNat : Nat) : Int) = d := by omega
  have z := atI_nat (xs := (Zl A O).map fun z => V.ref z.1.1) (j := d.toNat) (by rw [List.getElem?_map, List.getElem?_eq_getElem hi]; rfl)
  rw [e] at z
  exact z
theorem Law4.kill {C : Addr} {H H' : Hp} {st dx wl pl rl : Addr} {A : List (Addr × Addr)} {O : List Ob} {kvs : List (Key × V)} {least : Int} (L : Law4 C H st dx wl pl rl A O kvs least) {i : Nat} {a : Addr × Addr} {o : Ob} (ha : A[i]? = some a) (ho : O[i]? = some o) (hl : o.live = true)
    (S' : StoreAt H' C st dx wl pl 100000 100000 (if o.num < least then o.num else least) (flat O) (dropK kvs (.inl o.num))) (h1 : H' a.1 = some (.lst [.int o.num, .int o.kind, .ref a.2, .bl false])) (f : Fr (a.1 :: [st, wl, pl]) H H') :
    Law4 C H' st dx wl pl rl A (O.set i { o with live := false }) (dropK kvs (.inl o.num)) (if o.num < least then o.num else least) := by
  have mo := List.mem_of_getElem? ho
  refine ⟨by rw [flat_kill ho]; exact S', L.G.kill ho hl (L.nn o mo), L.R.setItem L.D ha ho rfl h1 f, L.D, fun x hx => ?_, fun x hx => ?_⟩
  · rcases List.mem_or_eq_of_mem_set hx with hx | rfl
    · exact L.sz x hx
    · exact L.sz o mo
  · rcases List.mem_or_eq_of_mem_set hx with hx | rfl
    · exact L.nn x hx
    · exact L.nn o mo
theorem Law4.swap {C : Addr} {H H4 : Hp} {st dx wl pl rl : Addr} {A : List (Addr × Addr)} {O : List Ob} {kvs : List (Key × V)} {least : Int} (L : Law4 C H st dx wl pl rl A O kvs least) {i j : Nat} {a b : Addr × Addr} {o p : Ob} (ha : A[i]? = some a) (ho : O[i]? = some o) (hb : A[j]? = some b) (hp : O[j]? = some p) (hl : o.live = true) (hl2 : p.live = true)
    (S' : StoreAt H4 C st dx wl pl 100000 100000 least (((flat O).set (off O i) p.num).set (off O j) o.num) (putK (putK kvs (.inl o.num) (.int (off O j : Nat))) (.inl p.num) (.int (off O i : Nat))))
    (R4 : RowAt H4 rl A (swapO O i j o p)) :
    Law4 C H4 st dx wl pl rl A (swapO O i j o p) (putK (putK kvs (.inl o.num) (.int (off O j : Nat))) (.inl p.num) (.int (off O i : Nat))) least := by
  have mo := List.mem_of_getElem? ho
  have mp := List.mem_of_getElem? hp
  have mm : ∀ x ∈ swapO O i j o p, x ∈ O ∨ x = { o with num := p.num } ∨ x = { p with num := o.num } := fun x hx => by
    rcases List.mem_or_eq_of_mem_set hx with hx | rfl
    · rcases List.mem_or_eq_of_mem_set hx with hx | rfl
      · exact Or.inl hx
      · exact Or.inr (Or.inl rfl)
    · exact Or.inr (Or.inr rfl)
  refine ⟨by rw [← swap_flat ho hp]; exact S', L.G.swap ho hp hl hl2, R4, L.D, fun x hx => ?_, fun x hx => ?_⟩
  · rcases mm x hx with hx | rfl | rfl
    · exact L.sz x hx
    · exact L.sz o mo
    · exact L.sz p mp
  · rcases mm x hx with hx | rfl | rfl
    · exact L.nn x hx
    · exact L.nn p mp
    · exact L.nn o mo
theorem get_snoc {α : Type} {l : List α} {x y : α} {k : Nat} (h : (l ++ [x])[k]? = some y) : l[k]? = some y ∨ k = l.length ∧ y = x := by
  by_cases hk : k < l.length
  · rw [List.getElem?_append_left hk] at h; exact Or.inl h
  · rw [List.getElem?_append_right (by omega)] at h
    have hlt := (List.getElem?_eq_some_iff.mp h).1
    have : k - l.length = 0 := by simpa using hlt
    rw [this] at h
    exact Or.inr ⟨by omega, by cases h; rfl⟩
theorem Law4.add {C : Addr} {H H' : Hp} {st dx wl pl rl : Addr} {A : List (Addr × Addr)} {O : List Ob} {kvs : List (Key × V)} {least : Int} (L : Law4 C H st dx wl pl rl A O kvs least) {a : Addr × Addr} {m x : Int} {z : Nat} (hz : z ≤ 99) (hn : valV kvs (.inl m) = none) (hs : Seen kvs m)
    (S' : StoreAt H' C st dx wl pl 100000 100000 m (flat O ++ (m :: (z : Int) :: x :: List.replicate z 0)) (putK kvs (.inl m) (.int ((flat O).length : Int)))) (h1 : H' a.1 = some (.lst [.int m, .int x, .ref a.2, .bl true])) (h2 : H' a.2 = some (.lst ((List.replicate z (0 : Int)).map V.int)))
    (hr : H' rl = some (.lst ((A ++ [a]).map fun a => V.ref a.1))) (f : Fr [st, wl, pl, rl] H H') (n1 : H a.1 = none) (n2 : H a.2 = none) (n12 : a.1 ≠ a.2) :
    Law4 C H' st dx wl pl rl (A ++ [a]) (O ++ [⟨m, x, List.replicate z 0, true⟩]) (putK kvs (.inl m) (.int ((flat O).length : Int))) m := by
  have there : ∀ b ∈ A, b.1 ≠ a.1 ∧ b.1 ≠ a.2 ∧ b.2 ≠ a.1 ∧ b.2 ≠ a.2 := fun b hb => by
    obtain ⟨i, hi⟩ := List.getElem?_of_mem hb
    have hl : i < O.length := by rw [← L.R.len]; exact (List.getElem?_eq_some_iff.mp hi).1
    obtain ⟨q1, q2⟩ := L.R.it i b _ hi (List.getElem?_eq_getElem hl)
    exact ⟨ne_of_none q1 n1, ne_of_none q1 n2, ne_of_none q2 n1, ne_of_none q2 n2⟩
  refine ⟨?_, L.G.add (o := ⟨m, x, List.replicate z 0, true⟩) rfl hn hs, ⟨hr, by rw [List.length_append, List.length_append, L.R.len]; rfl, fun i b o hb ho => ?_⟩, ⟨fun i j b c hb hc h => ?_, fun b c hb hc => ?_, fun b hb => ?_, L.D.d4, fun b hb => ?_⟩, fun o ho => ?_, fun o ho => ?_⟩
  · rw [flat_app]
    show StoreAt H' C st dx wl pl 100000 100000 m (flat O ++ (fl _ ++ [])) _
    rw [List.append_nil]
    unfold fl
    rw [List.length_replicate]
    exact S'
  · rcases get_snoc hb with hb | ⟨e, rfl⟩
    · have hl : i < O.length := by rw [← L.R.len]; exact (List.getElem?_eq_some_iff.mp hb).1
      rw [List.getElem?_append_left hl] at ho
      obtain ⟨q1, q2⟩ := L.R.it i b o hb ho
      have mb := List.mem_of_getElem? hb
      have d3 := L.D.d3 b mb
      have d5 := L.D.d5 b mb
      have g1 : b.1 ∉ [st, wl, pl, rl] := fun z => by
        rcases List.mem_append.mp (show b.1 ∈ [st, wl, pl] ++ [rl] from z) with z | z
        · exact d5.1 z
        · exact d3.1 (by simpa using z)
      have g2 : b.2 ∉ [st, wl, pl, rl] := fun z => by
        rcases List.mem_append.mp (show b.2 ∈ [st, wl, pl] ++ [rl] from z) with z | z
        · exact d5.2 z
        · exact d3.2 (by simpa using z)
      exact ⟨f _ _ q1 g1, f _ _ q2 g2⟩
    · rcases get_snoc ho with ho | ⟨e2, rfl⟩
      · have := (List.getElem?_eq_some_iff.mp ho).1
        rw [L.R.len] at e
        omega
      · exact ⟨h1, h2⟩
  · rcases get_snoc hb with hb' | ⟨e, e'⟩ <;> rcases get_snoc hc with hc' | ⟨e2, e2'⟩
    · exact L.D.d1 i j b c hb' hc' h
    · have t := there b (List.mem_of_getElem? hb')
      rw [e2'] at h
      rcases h with h | h
      · exact absurd h t.1
      · exact absurd h t.2.2.2
    · have t := there c (List.mem_of_getElem? hc')
      rw [e'] at h
      rcases h with h | h
      · exact absurd h.symm t.1
      · exact absurd h.symm t.2.2.2
    · omega
  · rcases List.mem_append.mp hb with hb' | hb' <;> rcases List.mem_append.mp hc with hc' | hc'
    · exact L.D.d2 b c hb' hc'
    · have e : c = a := by simpa using hc'
      rw [e]
      exact (there b hb').2.1
    · have e : b = a := by simpa using hb'
      rw [e]
      exact ((there c hc').2.2.1).symm
    · have e1 : b = a := by simpa using hb'
      have e2 : c = a := by simpa using hc'
      rw [e1, e2]
      exact n12
  · rcases List.mem_append.mp hb with hb | hb
    · exact L.D.d3 b hb
    · have e1 : b = a := by simpa using hb
      rw [e1]
      exact ⟨(ne_of_none L.R.rl n1).symm, (ne_of_none L.R.rl n2).symm⟩
  · rcases List.mem_append.mp hb with hb | hb
    · exact L.D.d5 b hb
    · have e1 : b = a := by simpa using hb
      rw [e1]
      have c1 : ∀ c, H c = none → c ∉ [st, wl, pl] := fun c hc hm => by
        have := L.S
        simp only [List.mem_cons, List.not_mem_nil, or_false] at hm
        rcases hm with rfl | rfl | rfl
        · rw [this.st] at hc; cases hc
        · rw [this.wl] at hc; cases hc
        · rw [this.pl] at hc; cases hc
      exact ⟨c1 _ n1, c1 _ n2⟩
  · rcases List.mem_append.mp ho with ho | ho
    · exact L.sz o ho
    · have e : o = ⟨m, x, List.replicate z 0, true⟩ := by simpa using ho
      rw [e]
      show (List.replicate z (0 : Int)).length ≤ 99
      rw [List.length_replicate]; exact hz
  · rcases List.mem_append.mp ho with ho | ho
    · exact L.nn o ho
    · have e : o = ⟨m, x, List.replicate z 0, true⟩ := by simpa using ho
      rw [e]
      exact hs.1

end LX
namespace LX
open PySem PySem.Spec PyProof.Rows L2 NdefX
/-! ### what is reached, plainly -/
def Live (O : List Ob) (n : Int) : Prop := ∃ (i : Nat) (o : Ob), O[i]? = some o ∧ o.live = true ∧ o.num = n
inductive Reach (O : List Ob) (rs : List Int) : Int → Prop where
  | root {w : Int} : w ∈ rs → w % 2 = 0 → Live O (w / 2) → Reach O rs (w / 2)
  | step {m w : Int} {i : Nat} {o : Ob} : Reach O rs m → O[i]? = some o → o.live = true → o.num = m → w ∈ o.kind :: o.sl → w % 2 = 0 → Live O (w / 2) → Reach O rs (w / 2)
theorem Reach.live {O : List Ob} {rs : List Int} {n : Int} (h : Reach O rs n) : Live O n := by cases h <;> assumption
theorem Good.iff {O : List Ob} {kvs : List (Key × V)} {least : Int} (G : Good O kvs least) (n : Int) : (valV kvs (.inl n)).isSome = true ↔ Live O n := by
  constructor
  · intro h
    obtain ⟨v, hv⟩ := Option.isSome_iff_exists.mp h
    obtain ⟨i, o, h1, h2, h3, _⟩ := (G.val _ _).mp hv
    exact ⟨i, o, h1, h2, (Sum.inl.inj h3).symm⟩
  · rintro ⟨i, o, h1, h2, rfl⟩
    rw [G.at h1 h2]; rfl
theorem nd_len {α : Type} [DecidableEq α] : ∀ (l m : List α), l.Nodup → (∀ x ∈ l, x ∈ m) → l.length ≤ m.length
  | [], _, _, _ => Nat.zero_le _
  | a :: l, m, h, hs => by
    obtain ⟨h1, h2⟩ := List.nodup_cons.mp h
    have hm := hs a List.mem_cons_self
    have := nd_len l (m.erase a) h2 fun x hx => (List.mem_erase_of_ne (fun e => h1 (by rw [← e]; exact hx))).mpr (hs x (List.mem_cons_of_mem _ hx))
    have hl := List.length_erase_of_mem hm
    have : 0 < m.length := List.length_pos_of_mem hm
    rw [List.length_cons]
    omega
theorem live_len {O : List Ob} {F : List Int} (h : F.Nodup) (hl : ∀ n ∈ F, Live O n) : F.length ≤ O.length := by
  have := nd_len F (O.map (·.num)) h fun n hn => by
    obtain ⟨i, o, h1, _, h3⟩ := hl n hn
    exact List.mem_map.mpr ⟨o, List.mem_of_getElem? h1, h3⟩
  rw [List.length_map] at this
  exact this
/-- the references among the words -/
def refs (ws : List Int) : List Int := (ws.filter fun w => decide (w % 2 = 0)).map (· / 2)
theorem mem_refs {ws : List Int} {n : Int} : n ∈ refs ws ↔ ∃ w, w ∈ ws ∧ w % 2 = 0 ∧ w / 2 = n := by
  unfold refs
  constructor
  · intro h
    obtain ⟨w, hw, e⟩ := List.mem_map.mp h
    obtain ⟨h1, h2⟩ := List.mem_filter.mp hw
    exact ⟨w, h1, of_decide_eq_true h2, e⟩
  · rintro ⟨w, h1, h2, e⟩
    exact List.mem_map.mpr ⟨w, List.mem_filter.mpr ⟨h1, decide_eq_true h2⟩, e⟩
theorem refs_len (ws : List Int) : (refs ws).length ≤ ws.length := by unfold refs; rw [List.length_map]; exact List.length_filter_le _ _
theorem refs_take_yes {ws : List Int} {i : Nat} {w : Int} (h : ws[i]? = some w) (he : w % 2 = 0) : refs (ws.take (i + 1)) = refs (ws.take i) ++ [w / 2] := by
  unfold refs
  rw [take_filter_yes h (decide_eq_true he), List.map_append]
  rfl
theorem refs_take_no {ws : List Int} {i : Nat} {w : Int} (h : ws[i]? = some w) (he : ¬ w % 2 = 0) : refs (ws.take (i + 1)) = refs (ws.take i) := by
  unfold refs
  rw [take_filter_no h (decide_eq_false he)]
/-- a search: found, waiting; part: the object whose words are not all looked at yet -/
structure Srch (O : List Ob) (rs F Wt : List Int) (part : Option (Int × List Int)) : Prop where
  nd : F.Nodup
  fr : ∀ n ∈ F, Reach O rs n
  wr : ∀ n ∈ Wt, Live O n → Reach O rs n
  root : ∀ w ∈ rs, w % 2 = 0 → Live O (w / 2) → w / 2 ∈ F ∨ w / 2 ∈ Wt
  clos : ∀ m ∈ F, ∀ (i : Nat) (o : Ob), O[i]? = some o → o.live = true → o.num = m → ∀ w ∈ (match part with | some (p, ws) => if m = p then ws else o.kind :: o.sl | none => o.kind :: o.sl), w % 2 = 0 → Live O (w / 2) → w / 2 ∈ F ∨ w / 2 ∈ Wt
theorem Srch.start (O : List Ob) (rs : List Int) : Srch O rs [] (refs rs) none := by
  refine ⟨List.nodup_nil, fun n h => by simp at h, fun n h hl => ?_, fun w h1 h2 _ => Or.inr (mem_refs.mpr ⟨w, h1, h2, rfl⟩), fun m h => by simp at h⟩
  obtain ⟨w, h1, h2, e⟩ := mem_refs.mp h
  subst e
  exact .root h1 h2 hl
theorem Srch.done {O : List Ob} {rs F : List Int} (S : Srch O rs F [] none) (n : Int) : n ∈ F ↔ Reach O rs n := by
  refine ⟨S.fr n, fun h => ?_⟩
  induction h with
  | root h1 h2 h3 => exact (S.root _ h1 h2 h3).resolve_right (by simp)
  | step h1 h2 h3 h4 h5 h6 h7 ih => exact (S.clos _ ih _ _ h2 h3 h4 _ h5 h6 h7).resolve_right (by simp)
theorem drop_last {α : Type} {l : List α} {x : α} (h : l[l.length - 1]? = some x) : l = l.dropLast ++ [x] := by
  have hne : l ≠ [] := fun e => by subst e; simp at h
  rw [← List.getLast?_eq_getElem?, List.getLast?_eq_some_getLast hne] at h
  cases h
  exact (List.dropLast_concat_getLast hne).symm
/-- the last one is known, or is none -/
theorem Srch.pop {O : List Ob} {rs F Wt : List Int} {n : Int} (S : Srch O rs F (Wt ++ [n]) none) (h : n ∈ F ∨ ¬ Live O n) : Srch O rs F Wt none := by
  have h2 : ∀ x, Live O x → x ∈ F ∨ x ∈ Wt ++ [n] → x ∈ F ∨ x ∈ Wt := fun x hx hh => by
    rcases hh with hh | hh
    · exact Or.inl hh
    · rcases List.mem_append.mp hh with hh | hh
      · exact Or.inr hh
      · have e : x = n := by simpa using hh
        subst e
        exact Or.inl (h.resolve_right fun z => z hx)
  exact ⟨S.nd, S.fr, fun m hm => S.wr m (List.mem_append_left _ hm), fun w h1 h2' h3 => h2 _ h3 (S.root w h1 h2' h3), fun m hm i o h1 h2' h3 w hw he hl => h2 _ hl (S.clos m hm i o h1 h2' h3 w hw he hl)⟩
/-- a new one is found -/
theorem Srch.find {O : List Ob} {rs F Wt : List Int} {n : Int} (S : Srch O rs F (Wt ++ [n]) none) (hn : n ∉ F) (hl : Live O n) : Srch O rs (F ++ [n]) Wt (some (n, [])) := by
  have h2 : ∀ x, x ∈ F ∨ x ∈ Wt ++ [n] → x ∈ F ++ [n] ∨ x ∈ Wt := fun x hh => by
    rcases hh with hh | hh
    · exact Or.inl (List.mem_append_left _ hh)
    · rcases List.mem_append.mp hh with hh | hh
      · exact Or.inr hh
      · exact Or.inl (List.mem_append_right _ hh)
  refine ⟨List.nodup_append.mpr ⟨S.nd, by simp, fun a ha b hb e => ?_⟩, fun m hm => ?_, fun m hm => S.wr m (List.mem_append_left _ hm), fun w h1 h2' h3 => h2 _ (S.root w h1 h2' h3), fun m hm i o h1 h3 h4 w hw he hlw => ?_⟩
  · have hb : b = n := by simpa using hb
    rw [e, hb] at ha
    exact hn ha
  · rcases List.mem_append.mp hm with hm | hm
    · exact S.fr m hm
    · have e : m = n := by simpa using hm
      rw [e]
      exact S.wr n (List.mem_append_right _ (by simp)) hl
  · by_cases e : m = n
    · simp only [if_pos e] at hw
      simp at hw
    · simp only [if_neg e] at hw
      rcases List.mem_append.mp hm with hm | hm
      · exact h2 _ (S.clos m hm i o h1 h3 h4 w hw he hlw)
      · exact absurd (by simpa using hm) e
/-- one more word of it is looked at -/
theorem Srch.word {O : List Ob} {rs F Wt Wt' ws : List Int} {n w : Int} (S : Srch O rs F Wt (some (n, ws))) (h1 : ∀ x ∈ Wt, x ∈ Wt') (h2 : ∀ x ∈ Wt', x ∈ Wt ∨ (Live O x → Reach O rs x)) (h3 : w % 2 = 0 → Live O (w / 2) → w / 2 ∈ F ∨ w / 2 ∈ Wt') : Srch O rs F Wt' (some (n, ws ++ [w])) := by
  refine ⟨S.nd, S.fr, fun m hm hl => ?_, fun w h4 h5 h6 => ?_, fun m hm i o h4 h5 h6 x hx he hl => ?_⟩
  · rcases h2 m hm with h | h
    · exact S.wr m h hl
    · exact h hl
  · exact (S.root w h4 h5 h6).imp id (h1 _)
  · have c := S.clos m hm i o h4 h5 h6
    by_cases e : m = n
    · simp only [if_pos e] at hx c
      rcases List.mem_append.mp hx with hx | hx
      · exact (c x hx he hl).imp id (h1 _)
      · have e : x = w := by simpa using hx
        subst e
        exact h3 he hl
    · simp only [if_neg e] at hx c
      exact (c x hx he hl).imp id (h1 _)
theorem Srch.all {O : List Ob} {rs F Wt : List Int} {n : Int} {i : Nat} {o : Ob} (U : ∀ (j : Nat) (p : Ob), O[j]? = some p → p.live = true → p.num = n → p = o) (S : Srch O rs F Wt (some (n, o.kind :: o.sl))) : Srch O rs F Wt none := by
  refine ⟨S.nd, S.fr, S.wr, S.root, fun m hm j p h1 h2 h3 w hw he hl => ?_⟩
  have c := S.clos m hm j p h1 h2 h3
  by_cases e : m = n
  · simp only [if_pos e] at c
    have := U j p h1 h2 (h3.trans e)
    subst this
    exact c w hw he hl
  · simp only [if_neg e] at c
    exact c w hw he hl
/-- all words at once -/
theorem Srch.words {O : List Ob} {rs F Wt : List Int} {n : Int} {i : Nat} {o : Ob} (S : Srch O rs F Wt (some (n, []))) (ho : O[i]? = some o) (hl : o.live = true) (hn : o.num = n) (hr : Reach O rs n) : Srch O rs F (Wt ++ refs (o.kind :: o.sl)) (some (n, o.kind :: o.sl)) := by
  have hh : ∀ x ∈ Wt ++ refs (o.kind :: o.sl), x ∈ Wt ∨ (Live O x → Reach O rs x) := fun x hx => by
    rcases List.mem_append.mp hx with hx | hx
    · exact Or.inl hx
    · obtain ⟨w, h1, h2, e⟩ := mem_refs.mp hx
      subst e
      exact Or.inr fun hl' => .step hr ho hl hn h1 h2 hl'
  refine ⟨S.nd, S.fr, fun m hm hl => ?_, fun w h4 h5 h6 => ?_, fun m hm j p h4 h5 h6 x hx he hlx => ?_⟩
  · rcases hh m hm with h | h
    · exact S.wr m h hl
    · exact h hl
  · exact (S.root w h4 h5 h6).imp id (List.mem_append_left _)
  · have c := S.clos m hm j p h4 h5 h6
    by_cases e : m = n
    · simp only [if_pos e] at hx
      exact Or.inr (List.mem_append_right _ (mem_refs.mpr ⟨x, hx, he, rfl⟩))
    · simp only [if_neg e] at hx c
      exact (c x hx he hlx).imp id (List.mem_append_left _)
/-- the dict of what is found -/
def dF (F : List Int) : List (Key × V) := F.map fun n => (.inl n, .bl true)
theorem dF_val (F : List Int) (m : Int) : valV (dF F) (.inl m) = if m ∈ F then some (.bl true) else none := by
  induction F with
  | nil => rfl
  | cons a r ih =>
    unfold dF at ih ⊢
    rw [List.map_cons]
    by_cases e : a = m
    · rw [valV_pos (p := (Sum.inl a, V.bl true)) (by rw [e]), if_pos (by rw [e]; exact List.mem_cons_self)]
    · rw [valV_neg (p := (Sum.inl a, V.bl true)) (fun z => e (Sum.inl.inj z)), ih]
      by_cases h : m ∈ r
      · rw [if_pos h, if_pos (List.mem_cons_of_mem _ h)]
      · rw [if_neg h, if_neg (fun z => (List.mem_cons.mp z).elim (fun z => e z.symm) h)]
theorem dF_put {F : List Int} {n : Int} (h : n ∉ F) : putK (dF F) (.inl n) (.bl true) = dF (F ++ [n]) := by
  rw [putK_new _ (by rw [dF_val, if_neg h])]
  unfold dF
  rw [List.map_append]
  rfl
/-- the size of the object of that number -/
def szf (O : List Ob) (n : Int) : Int := match O.find? fun o => o.live && decide (o.num = n) with
  | some o => 3 + (o.sl.length : Int)
  | none => 0
theorem szf_at {O : List Ob} {kvs : List (Key × V)} {least : Int} (G : Good O kvs least) {i : Nat} {o : Ob} (h : O[i]? = some o) (hl : o.live = true) : szf O o.num = 3 + (o.sl.length : Int) := by
  unfold szf
  cases e : O.find? fun p => p.live && decide (p.num = o.num) with
  | none =>
    have := List.find?_eq_none.mp e o (List.mem_of_getElem? h)
    simp [hl] at this
  | some p =>
    have h1 := List.find?_some e
    obtain ⟨j, hj⟩ := List.getElem?_of_mem (List.mem_of_find?_eq_some e)
    have h1 : p.live = true ∧ p.num = o.num := by simpa using h1
    have := G.un j i p o hj h h1.1 hl h1.2
    subst this
    rw [h] at hj
    cases hj
    rfl
theorem sum_perm {l m : List Int} (h : l.Perm m) : l.sum = m.sum := by
  induction h with
  | nil => rfl
  | cons x _ ih => rw [List.sum_cons, List.sum_cons, ih]
  | swap x y l => simp only [List.sum_cons]; omega
  | trans _ _ h1 h2 => rw [h1, h2]
theorem sorted_eq {l m : List Int} (h : l.Perm m) (hl : l.Pairwise (· ≤ ·)) (hm : m.Pairwise (· ≤ ·)) : l = m :=
  List.Perm.eq_of_pairwise (fun a b _ _ h1 h2 => Int.le_antisymm h1 h2) hl hm h
theorem perm_of {l m : List Int} (h1 : l.Nodup) (h2 : m.Nodup) (h : ∀ n, n ∈ l ↔ n ∈ m) : l.Perm m := (List.perm_ext_iff_of_nodup h1 h2).mpr h

end LX
namespace LX
open PySem PySem.Spec PyProof.Rows L2 NdefX
section
variable {P : Program} {w : World} {K : PySem.W.Frag} {mg : Str → Option Value} {base : Heap}
theorem iteNE {l : List V} {A B : Prop} (h : l ≠ []) (a : A) : if (!l.isEmpty) = true then A else B := by
  cases l with
  | nil => exact absurd rfl h
  | cons => exact iteT a
def sp_reached : Addr → Sp := fun C vs H Q _ => ∃ st dx wl pl room entries least O kvs ra, ∃ rs : List Int, vs = [.ref st, .ref ra] ∧ StoreAt H C st dx wl pl room entries least (flat O) kvs ∧ Good O kvs least ∧ (∀ o ∈ O, o.sl.length ≤ 99) ∧ O.length ≤ 1300 ∧ IsI H ra rs ∧ rs.length ≤ 65 ∧
  ∀ D F H', H D = none → H' D = some (.dK (dF F)) → F.Nodup → (∀ n, n ∈ F ↔ Reach O rs n) → Fr [] H H' → Q (.ref D) H'
theorem ok_reached (W : WT P K mg base) : FnOk P w K mg base CX0 3 W.f_reached W.fd_reached ["store", "roots"] (sp_reached W.c_Store) := by
  refine W.F_reached.ok sc_reached (fun vs H Q E h => ?_) (fun cdv Ar outer s H vs Q E hr h => ?_)
  · obtain ⟨st, dx, wl, pl, room, entries, least, O, kvs, ra, rs, rfl, _⟩ := h
    rfl
  · obtain ⟨st, dx, wl, pl, room, entries, least, O, kvs, ra, rs, rfl, S, G, sz, hO, hra, hrs, k⟩ := h
    have hu1 := hu_of hr
    have hu64 := hu64_of hr
    refine ⟨_, (pss_cons (ps_set (i := 2) sc_reached.nd rfl (by first | exact Or.inl rfl | exact Or.inr rfl) pe_dnewK)
      (pss_cons (ps_setLc (i := 3) (own := [("word", 4)]) (g := gName 4)  rfl sc_reached.nd rfl rfl (sw_true rfl rfl rfl (by decide +kernel)) (pi_list (pv 1)) (blkOk_by (N := N_reached) (sc := defScope s_reached) (by first | decide +kernel | rfl)) (fun _ _ _ _ _ => (pg_name (i := 4) sc_reached.nd rfl (by first | exact Or.inl rfl | exact Or.inr rfl))) (fun _ _ _ _ _ => pts_one (pt_truthK (K := K) rfl (pe_call (ok_is_ref W) (hr.mono (by decide)) rfl W.g_is_ref W.F_is_ref.kp W.b_is_ref .nil pass0 (pa_cons (pv 4) pa_nil)) (by intro _; rfl))) (fun _ _ _ _ _ => (pe_call (ok_ref_of W) (hr.mono (by decide)) rfl W.g_ref_of W.F_ref_of.kp W.b_ref_of .nil pass0 (pa_cons (pv 4) pa_nil))))
      (pss_cons (ps_while PassesOwn.never (pt_truth (pv 3) (by intro _; rfl)) (pss_cons (ps_set (i := 5) sc_reached.nd rfl (by first | exact Or.inl rfl | exact Or.inr rfl) (pe_bm0 PySem.F.plainAttrs_list PySem.F.slot_list_pop PySem.F.type_list_pop mt_pop (pv 3) ))
      (pss_one (ps_if (PW.pt (pw_and (pt_cmpR (op_ninU hu1) (pv 5) (pv 2) (by first | exact nomark _ | rfl)) (pw_and1 (pt_truth (pe_meth (pv 0) W.C_Store W.m_Store_exists (ok_Store_exists W) (hr.mono (by decide)) W.b_Store_exists .nil pass0 (pa_cons (pv 5) pa_nil)) (by intro _; rfl))))) (pss_cons (ps_dput hu1 (pv 2) (pv 5) pe_bl rfl)
      (pss_one (ps_for PassesOwn.never rfl (pi_list (pe_op op_addU (pe_lst (pa_cons (pe_meth (pv 0) W.C_Store W.m_Store_kind (ok_Store_kind W) (hr.mono (by decide)) W.b_Store_kind .nil pass0 (pa_cons (pv 5) pa_nil)) pa_nil)) (pe_meth (pv 0) W.C_Store W.m_Store_slots (ok_Store_slots W) (hr.mono (by decide)) W.b_Store_slots .nil pass0 (pa_cons (pv 5) pa_nil)))) (pg_name (i := 4) sc_reached.nd rfl (by first | exact Or.inl rfl | exact Or.inr rfl)) (pss_one (ps_if (PW.pt (pw_and (pt_truth (pe_call (ok_is_ref W) (hr.mono (by decide)) rfl W.g_is_ref W.F_is_ref.kp W.b_is_ref .nil pass0 (pa_cons (pv 4) pa_nil)) (by intro _; rfl)) (pw_and1 (pt_cmpR (op_ninU hu1) (pe_call (ok_ref_of W) (hr.mono (by decide)) rfl W.g_ref_of W.F_ref_of.kp W.b_ref_of .nil pass0 (pa_cons (pv 4) pa_nil)) (pv 2) (by first | exact nomark _ | rfl))))) (pss_one (ps_expr (pe_bm PySem.F.plainAttrs_list PySem.F.slot_list_append PySem.F.type_list_append mt_append (pv 3) (pa_cons (pe_call (ok_ref_of W) (hr.mono (by decide)) rfl W.g_ref_of W.F_ref_of.kp W.b_ref_of .nil pass0 (pa_cons (pv 4) pa_nil)) pa_nil)))) pss_nil))))) pss_nil))))
      (pss_one (ps_ret (pv 2)))))), ?_⟩
    intro D hD
    have hra1 := Fr.new (F := []) (o := .dK []) hD ra _ hra (by simp)
    refine ⟨_, rfl, ra, rfl, ⟨_, SqL.of hra1⟩, fun wA hwA => ?_⟩
    have f1 : Fr [] H (upd H D (.dK [])) := Fr.new hD
    have hD1 : upd H D (.dK []) D = some (.dK []) := upd_same
    have hwA0 : H wA = none := by
      by_cases e : wA = D
      · rw [e]; exact hD
      · rw [upd_ne e] at hwA; exact hwA
    generalize upd H D (.dK []) = H1 at f1 hD1 hra1 hwA
    refine lc_list (K := K) (a := ra) (xs := rs.map V.int) (fun i H' => H' = upd H1 wA (.lst ((refs (rs.take i)).map V.int))) rfl (fun i H' _ e => ?_) (fun i x H' hx e => ?_) (fun H' e => ?_)
    · subst e
      exact SqL.of (Fr.new (F := []) (o := .lst ((refs (rs.take i)).map V.int)) hwA ra _ hra1 (by simp))
    · subst e
      rw [List.getElem?_map] at hx
      obtain ⟨n, hn, rfl⟩ := Option.map_eq_some_iff.mp hx
      have hlen : (refs (rs.take i)).length ≤ 65 := by
        have := refs_len (rs.take i)
        rw [List.length_take] at this
        omega
      refine ⟨rfl, ?_⟩
      refine ⟨_, rfl, n, rfl, ?_⟩
      refine ⟨_, rfl, ?_⟩
      refine iteD (fun he => ?_) (fun he => ?_)
      · refine ⟨_, rfl, n, rfl, he, ?_⟩
        refine ⟨_, upd_same, by rw [List.length_map, sizeLine_eq]; omega, ?_⟩
        rw [upd_upd, refs_take_yes hn he, List.map_append]; rfl
      · rw [refs_take_no hn he]
    · subst e
      rw [List.length_map, List.take_length]
      have hw2 : upd H1 wA (.lst ((refs rs).map V.int)) wA = some (.lst ((refs rs).map V.int)) := upd_same
      have f2 : Fr [] H1 (upd H1 wA (.lst ((refs rs).map V.int))) := Fr.new hwA
      have hD2 := f2 D _ hD1 (by simp)
      have f2 := f1.trans f2
      generalize upd H1 wA (.lst ((refs rs).map V.int)) = H2 at f2 hw2 hD2
      refine ⟨fun m σ H' => ∃ (F Wt : List Int) (v4 v5 : Option V), σ = [some (.ref st), some (.ref ra), some (.ref D), some (.ref wA), v4, v5] ∧ H' D = some (.dK (dF F)) ∧ H' wA = some (.lst (Wt.map V.int)) ∧ Fr [] H H' ∧ Srch O rs F Wt none ∧ m = (O.length - F.length) * 102 + Wt.length ∧ m ≤ 140000,
        ⟨_, [], refs rs, _, _, rfl, hD2, hw2, f2, Srch.start O rs, rfl, by have := refs_len rs; simp only [List.length_nil]; omega⟩, ?_⟩
      rintro m σ H3 ⟨F, Wt, v4, v5, rfl, hD3, hw3, f3, sr, rfl, hm⟩
      have S3 := S.keep f3 (by simp)
      refine ⟨_, rfl, _, Or.inl ⟨_, SqL.of hw3, rfl⟩, ?_⟩
      cases hW : Wt with
      | nil =>
        subst hW
        refine iteF ?_
        exact ⟨_, rfl, k D F H3 hD hD3 sr.nd sr.done f3⟩
      | cons y0 ys0 =>
        have hlast : ∃ n, Wt[Wt.length - 1]? = some n := ⟨_, List.getElem?_eq_getElem (by rw [hW]; simp)⟩
        rw [← hW]
        obtain ⟨n, hn⟩ := hlast
        have hne : Wt ≠ [] := by rw [hW]; simp
        have hdl := drop_last hn
        generalize hWt' : Wt.dropLast = Wt' at hdl
        have hl : Wt.length = Wt'.length + 1 := by rw [hdl, List.length_append]; rfl
        refine iteNE (by rw [hW]; simp) ?_
        refine ⟨_, fun _ _ z => z, ?_⟩
        refine ⟨_, rfl, Or.inl ⟨rfl, _, SqL.of hw3⟩, ?_⟩
        refine ⟨wA, _, .int n, rfl, rfl, hw3, by rw [List.length_map]; exact int_at hn, ?_⟩
        rw [← List.map_dropLast, hWt']
        have nDw : D ≠ wA := ne_of hD3 hw3 (by intro z; cases z)
        have hw4 : upd H3 wA (.lst (Wt'.map V.int)) wA = some (.lst (Wt'.map V.int)) := upd_same
        have hD4 : upd H3 wA (.lst (Wt'.map V.int)) D = some (.dK (dF F)) := by rw [upd_ne nDw]; exact hD3
        have f4 : Fr [] H (upd H3 wA (.lst (Wt'.map V.int))) := f3.skip hwA0
        generalize upd H3 wA (.lst (Wt'.map V.int)) = H4 at hw4 hD4 f4
        have S4 := S.keep f4 (by simp)
        rw [hdl] at sr
        refine ⟨_, rfl, _, rfl, Or.inr ⟨_, DGet.k (k := Sum.inl n) hD4, ?_⟩⟩
        rw [dF_val]
        refine ⟨_, rfl, ?_⟩
        have stop : n ∈ F ∨ ¬ Live O n → ∃ m', m' < (O.length - F.length) * 102 + Wt.length ∧ ∃ (F' Wt2 : List Int) (v4' v5' : Option V), [some (V.ref st), some (.ref ra), some (.ref D), some (.ref wA), v4, some (.int n)] = [some (V.ref st), some (.ref ra), some (.ref D), some (.ref wA), v4', v5'] ∧ H4 D = some (.dK (dF F')) ∧ H4 wA = some (.lst (Wt2.map V.int)) ∧ Fr [] H H4 ∧ Srch O rs F' Wt2 none ∧ m' = (O.length - F'.length) * 102 + Wt2.length ∧ m' ≤ 140000 := fun h =>
          ⟨(O.length - F.length) * 102 + Wt'.length, by omega, F, Wt', _, _, rfl, hD4, hw4, f4, sr.pop h, rfl, by omega⟩
        by_cases hF : n ∈ F
        · rw [if_pos hF]
          exact iteF (stop (Or.inl hF))
        rw [if_neg hF]
        refine iteT ?_
        refine ⟨_, rfl, st, dx, _, rfl, S4.st, rfl, ?_⟩
        refine ⟨_, rfl, ?_⟩
        refine ⟨st, dx, wl, pl, room, entries, least, _, kvs, n, rfl, S4, ?_⟩
        refine ⟨_, rfl, ?_⟩
        by_cases hv : (valV kvs (.inl n)).isSome = true
        · rw [hv]
          refine iteT ?_
          have hlv := (G.iff n).mp hv
          obtain ⟨i, o, ho, hlo, hon⟩ := hlv
          subst hon
          have hlv := (G.iff o.num).mp hv
          have so := sz o (List.mem_of_getElem? ho)
          have sr2 := sr.find hF hlv
          have hFl : F.length + 1 ≤ O.length := by
            have := live_len sr2.nd fun m hm => (sr2.fr m hm).live
            rw [List.length_append] at this
            exact this
          refine ⟨_, rfl, _, rfl, D, _, rfl, DPut.k (k := Sum.inl o.num) hD4 (by unfold dF; rw [List.length_map, sizeLine_eq]; omega), ?_⟩
          rw [dF_put hF]
          have hD5 : upd H4 D (.dK (dF (F ++ [o.num]))) D = some (.dK (dF (F ++ [o.num]))) := upd_same
          have hw5 : upd H4 D (.dK (dF (F ++ [o.num]))) wA = some (.lst (Wt'.map V.int)) := by rw [upd_ne nDw.symm]; exact hw4
          have f5 : Fr [] H (upd H4 D (.dK (dF (F ++ [o.num])))) := f4.skip hD
          generalize upd H4 D (.dK (dF (F ++ [o.num]))) = H5 at hD5 hw5 f5
          have S5 := S.keep f5 (by simp)
          refine ⟨_, rfl, st, dx, _, rfl, S5.st, rfl, ?_⟩
          refine ⟨_, rfl, ?_⟩
          refine ⟨st, dx, wl, pl, room, entries, least, _, kvs, o.num, off O i, o.kind, rfl, S5, G.at ho hlo, flat_kind ho, ?_⟩
          refine ⟨(by show 1 ≤ sizeLine; decide), fun l1 h1 => ?_⟩
          have g6 : Fr [] H5 (upd H5 l1 (.lst [V.int o.kind])) := Fr.new h1
          have hl1 : upd H5 l1 (.lst [V.int o.kind]) l1 = some (.lst [V.int o.kind]) := upd_same
          generalize upd H5 l1 (.lst [V.int o.kind]) = H6 at g6 hl1
          have f6 := f5.trans g6
          have S6 := S.keep f6 (by simp)
          refine ⟨_, rfl, st, dx, _, rfl, S6.st, rfl, ?_⟩
          refine ⟨_, rfl, ?_⟩
          refine ⟨st, dx, wl, pl, room, entries, least, _, kvs, o.num, off O i, o.sl.length, rfl, S6, G.at ho hlo, flat_size ho, off_lt ho, fun l2 h2 => ?_⟩
          rw [flat_slots ho]
          have g7 : Fr [] H6 (upd H6 l2 (.lst (o.sl.map V.int))) := Fr.new h2
          have hl2 : upd H6 l2 (.lst (o.sl.map V.int)) l2 = some (.lst (o.sl.map V.int)) := upd_same
          have hl1' := g7 _ _ hl1 (by simp)
          show rAddU K _ _ (upd H6 l2 (.lst (o.sl.map V.int))) _
          generalize upd H6 l2 (.lst (o.sl.map V.int)) = H7 at g7 hl2 hl1'
          have f7 := f6.trans g7
          refine Or.inl ⟨l1, l2, _, _, rfl, rfl, hl1', hl2, by rw [List.length_map, sizeLine_eq]; show 1 + o.sl.length ≤ _; omega, fun l3 h3 => ?_⟩
          have e3 : [V.int o.kind] ++ o.sl.map V.int = (o.kind :: o.sl).map V.int := rfl
          rw [e3]
          have g8 : Fr [] H7 (upd H7 l3 (.lst ((o.kind :: o.sl).map V.int))) := Fr.new h3
          have hl3 : upd H7 l3 (.lst ((o.kind :: o.sl).map V.int)) l3 = some (.lst ((o.kind :: o.sl).map V.int)) := upd_same
          have n3 : l3 ≠ wA := (ne_of_none (g7 _ _ (g6 _ _ hw5 (by simp)) (by simp)) h3).symm
          have hD8 := g8 _ _ (g7 _ _ (g6 _ _ hD5 (by simp)) (by simp)) (by simp)
          have hw8 := g8 _ _ (g7 _ _ (g6 _ _ hw5 (by simp)) (by simp)) (by simp)
          have f8 := f7.trans g8
          generalize upd H7 l3 (.lst ((o.kind :: o.sl).map V.int)) = H8 at g8 hl3 hD8 hw8 f8
          refine ⟨l3, rfl, ⟨_, SqL.of hl3⟩, ?_⟩
          refine for_list (K := K) (a := l3) (xs := (o.kind :: o.sl).map V.int) (fun j σ H' => ∃ (Wt2 : List Int) (v4 : Option V), σ = [some (.ref st), some (.ref ra), some (.ref D), some (.ref wA), v4, some (.int o.num)] ∧ H' D = some (.dK (dF (F ++ [o.num]))) ∧ H' wA = some (.lst (Wt2.map V.int)) ∧ H' l3 = some (.lst ((o.kind :: o.sl).map V.int)) ∧ Fr [] H H' ∧ Srch O rs (F ++ [o.num]) Wt2 (some (o.num, (o.kind :: o.sl).take j)) ∧ Wt2.length ≤ Wt'.length + j)
            ⟨Wt', _, rfl, hD8, hw8, hl3, f8, sr2, by omega⟩ (fun j σ H9 _ hI => ?_) (fun j x σ H9 hx hI => ?_) (fun σ H9 hI => ?_)
          · obtain ⟨Wt2, v4', rfl, a1, a2, a3, a4, a5, a6⟩ := hI
            exact SqL.of a3
          · obtain ⟨Wt2, v4', rfl, a1, a2, a3, a4, a5, a6⟩ := hI
            rw [List.getElem?_map] at hx
            obtain ⟨y, hy, rfl⟩ := Option.map_eq_some_iff.mp hx
            have hj : j < (o.kind :: o.sl).length := (List.getElem?_eq_some_iff.mp hy).1
            rw [List.length_cons] at hj
            have htk : (o.kind :: o.sl).take (j + 1) = (o.kind :: o.sl).take j ++ [y] := by rw [List.take_succ, hy]; rfl
            have hmem : y ∈ o.kind :: o.sl := List.mem_of_getElem? hy
            refine ⟨_, rfl, y, rfl, ?_⟩
            refine ⟨_, rfl, ?_⟩
            refine iteD (fun he => ?_) (fun he => ?_)
            · refine ⟨_, rfl, y, rfl, he, ?_⟩
              refine ⟨_, rfl, Or.inr ⟨_, DGet.k (k := Sum.inl (y / 2)) a1, ?_⟩⟩
              rw [dF_val]
              refine ⟨_, rfl, ?_⟩
              by_cases hy2 : y / 2 ∈ F ++ [o.num]
              · rw [if_pos hy2]
                refine iteF ⟨Wt2, _, rfl, a1, a2, a3, a4, ?_, by omega⟩
                rw [htk]
                exact a5.word (fun x h => h) (fun x h => Or.inl h) fun _ _ => Or.inl hy2
              · rw [if_neg hy2]
                refine iteT ?_
                refine ⟨_, rfl, Or.inl ⟨rfl, _, SqL.of a2⟩, ?_⟩
                refine ⟨_, rfl, y, rfl, he, ?_⟩
                refine ⟨wA, _, _, rfl, rfl, a2, by rw [List.length_map, sizeLine_eq]; omega, ?_⟩
                have e4 : Wt2.map V.int ++ [V.int (y / 2)] = (Wt2 ++ [y / 2]).map V.int := by rw [List.map_append]; rfl
                rw [e4]
                refine ⟨Wt2 ++ [y / 2], _, rfl, by rw [upd_ne nDw]; exact a1, upd_same, by rw [upd_ne n3]; exact a3, a4.skip hwA0, ?_, by rw [List.length_append]; show Wt2.length + 1 ≤ _; omega⟩
                rw [htk]
                refine a5.word (fun x h => List.mem_append_left _ h) (fun x h => ?_) fun _ _ => Or.inr (List.mem_append_right _ (by simp))
                rcases List.mem_append.mp h with h | h
                · exact Or.inl h
                · have e : x = y / 2 := by simpa using h
                  rw [e]
                  exact Or.inr fun hl => .step (sr2.fr o.num (List.mem_append_right _ (by simp))) ho hlo rfl hmem he hl
            · refine ⟨Wt2, _, rfl, a1, a2, a3, a4, ?_, by omega⟩
              rw [htk]
              exact a5.word (fun x h => h) (fun x h => Or.inl h) fun h _ => absurd h he
          · obtain ⟨Wt2, v4', rfl, a1, a2, a3, a4, a5, a6⟩ := hI
            rw [List.length_map, List.take_length] at a5
            rw [List.length_map, List.length_cons] at a6
            refine ⟨(O.length - (F ++ [o.num]).length) * 102 + Wt2.length, ?_, F ++ [o.num], Wt2, _, _, rfl, a1, a2, a4, a5.all (i := i) (fun j p h1 h2 h3 => ?_), rfl, ?_⟩
            · rw [List.length_append]; show (O.length - (F.length + 1)) * 102 + _ < _; omega
            · have := G.un j i p o h1 ho h2 hlo h3
              subst this
              rw [ho] at h1; cases h1; rfl
            · rw [List.length_append]; show (O.length - (F.length + 1)) * 102 + _ ≤ _; omega
        · have hv' : (valV kvs (.inl n)).isSome = false := by simpa using hv
          rw [hv']
          exact iteF (stop (Or.inr fun h => hv ((G.iff n).mpr h)))
end

end LX
namespace LX
open PySem PySem.Spec PyProof.Rows L2 NdefX
/-! ### closing up, plainly -/
def lvF : Nat → List Ob → List (Ob × Nat)
  | _, [] => []
  | p, a :: r => if a.live = true then (a, p) :: lvF (p + (fl a).length) r else lvF (p + (fl a).length) r
theorem lvF_cons (p : Nat) (a : Ob) (r : List Ob) : lvF p (a :: r) = if a.live = true then (a, p) :: lvF (p + (fl a).length) r else lvF (p + (fl a).length) r := rfl
theorem lvF_ob : ∀ (p : Nat) (O : List Ob), (lvF p O).map (·.1) = O.filter (·.live)
  | _, [] => rfl
  | p, a :: r => by
    have ih := lvF_ob (p + (fl a).length) r
    rw [lvF_cons]
    by_cases h : a.live = true
    · rw [if_pos h, List.map_cons, ih, List.filter_cons_of_pos (by exact h)]
    · rw [if_neg h, ih, List.filter_cons_of_neg (by exact h)]
theorem off_cons (a : Ob) (r : List Ob) (i : Nat) : off (a :: r) (i + 1) = (fl a).length + off r i := by
  unfold off
  rw [List.take_succ_cons, flat_cons, List.length_append]
theorem lvF_mem : ∀ (p : Nat) (O : List Ob) (z : Ob × Nat), z ∈ lvF p O ↔ ∃ i : Nat, O[i]? = some z.1 ∧ z.1.live = true ∧ z.2 = p + off O i
  | p, [], z => by simp [lvF]
  | p, a :: r, z => by
    have ih := lvF_mem (p + (fl a).length) r z
    have tail : (∃ i : Nat, r[i]? = some z.1 ∧ z.1.live = true ∧ z.2 = p + (fl a).length + off r i) ↔ ∃ i : Nat, (a :: r)[i + 1]? = some z.1 ∧ z.1.live = true ∧ z.2 = p + off (a :: r) (i + 1) := by
      constructor
      · rintro ⟨i, h1, h2, h3⟩
        exact ⟨i, h1, h2, by rw [off_cons, h3]; omega⟩
      · rintro ⟨i, h1, h2, h3⟩
        exact ⟨i, h1, h2, by rw [h3, off_cons]; omega⟩
    have all : (∃ i : Nat, (a :: r)[i]? = some z.1 ∧ z.1.live = true ∧ z.2 = p + off (a :: r) i) ↔ (a = z.1 ∧ z.1.live = true ∧ z.2 = p) ∨ ∃ i : Nat, (a :: r)[i + 1]? = some z.1 ∧ z.1.live = true ∧ z.2 = p + off (a :: r) (i + 1) := by
      constructor
      · rintro ⟨i, h1, h2, h3⟩
        cases i with
        | zero => exact Or.inl ⟨Option.some.inj h1, h2, by rw [h3]; rfl⟩
        | succ i => exact Or.inr ⟨i, h1, h2, h3⟩
      · rintro (⟨h1, h2, h3⟩ | ⟨i, h1, h2, h3⟩)
        · exact ⟨0, congrArg some h1, h2, by rw [h3]; rfl⟩
        · exact ⟨i + 1, h1, h2, h3⟩
    rw [all, ← tail, ← ih]
    rw [lvF_cons]
    by_cases h : a.live = true
    · rw [if_pos h, List.mem_cons]
      constructor
      · rintro (e | e)
        · subst e; exact Or.inl ⟨rfl, h, rfl⟩
        · exact Or.inr e
      · rintro (⟨h1, h2, h3⟩ | e)
        · left
          obtain ⟨z1, z2⟩ := z
          have h1 : a = z1 := h1
          have h3 : z2 = p := h3
          rw [h1, h3]
        · exact Or.inr e
    · rw [if_neg h]
      constructor
      · exact Or.inr
      · rintro (⟨h1, h2, h3⟩ | e)
        · rw [h1] at h; exact absurd h2 h
        · exact e
theorem lvF_lt : ∀ (p : Nat) (O : List Ob), (lvF p O).Pairwise (fun x y => x.2 < y.2) ∧ ∀ z ∈ lvF p O, p ≤ z.2
  | _, [] => ⟨List.Pairwise.nil, fun z h => by simp [lvF] at h⟩
  | p, a :: r => by
    obtain ⟨h1, h2⟩ := lvF_lt (p + (fl a).length) r
    have hl := fl_len a
    rw [lvF_cons]
    by_cases h : a.live = true
    · rw [if_pos h]
      refine ⟨List.pairwise_cons.mpr ⟨fun z hz => ?_, h1⟩, fun z hz => ?_⟩
      · have := h2 z hz
        show p < z.2
        omega
      · rcases List.mem_cons.mp hz with e | hz
        · rw [e]; exact Nat.le_refl _
        · have := h2 z hz
          omega
    · rw [if_neg h]
      exact ⟨h1, fun z hz => by have := h2 z hz; omega⟩
theorem lvF_app : ∀ (p : Nat) (A B : List Ob), lvF p (A ++ B) = lvF p A ++ lvF (p + (flat A).length) B
  | p, [], B => by simp [lvF, flat]
  | p, a :: r, B => by
    have ih := lvF_app (p + (fl a).length) r B
    rw [List.cons_append, lvF_cons, lvF_cons, ih, flat_cons, List.length_append, Nat.add_assoc]
    split <;> rfl
def tbl (O : List Ob) : List (Int × Int) := (lvF 0 O).map fun z => (z.1.num, (z.2 : Int))
theorem tbl_fst (O : List Ob) : (tbl O).map (·.1) = (O.filter (·.live)).map (·.num) := by
  unfold tbl
  rw [← lvF_ob 0 O, List.map_map, List.map_map]; rfl
theorem tbl_mem (O : List Ob) (n p : Int) : (n, p) ∈ tbl O ↔ ∃ (i : Nat) (o : Ob), O[i]? = some o ∧ o.live = true ∧ n = o.num ∧ p = (off O i : Nat) := by
  unfold tbl
  constructor
  · intro h
    obtain ⟨z, hz, e⟩ := List.mem_map.mp h
    obtain ⟨i, h1, h2, h3⟩ := (lvF_mem 0 O z).mp hz
    cases e
    exact ⟨i, z.1, h1, h2, rfl, by rw [h3, Nat.zero_add]⟩
  · rintro ⟨i, o, h1, h2, rfl, rfl⟩
    exact List.mem_map.mpr ⟨(o, off O i), (lvF_mem 0 O _).mpr ⟨i, h1, h2, by rw [Nat.zero_add]⟩, rfl⟩
theorem tbl_lt (O : List Ob) : (tbl O).Pairwise (fun x y => x.2 < y.2) := by
  unfold tbl
  exact List.pairwise_map.mpr ((lvF_lt 0 O).1.imp fun h => by show ((_ : Nat) : Int) < ((_ : Nat) : Int); omega)
theorem tbl_snoc (A : List Ob) (a : Ob) (h : a.live = true) : tbl (A ++ [a]) = tbl A ++ [(a.num, ((flat A).length : Int))] := by
  unfold tbl
  rw [lvF_app, List.map_append]
  congr 1
  show (lvF (0 + (flat A).length) [a]).map _ = _
  rw [lvF_cons, if_pos h, Nat.zero_add]
  rfl
theorem pw_inj {l : List (Int × Int)} (h : l.Pairwise (fun x y => x.2 < y.2)) {a b : Int × Int} (ha : a ∈ l) (hb : b ∈ l) (e : a.2 = b.2) : a = b := by
  induction l with
  | nil => simp at ha
  | cons x r ih =>
    obtain ⟨h1, h2⟩ := List.pairwise_cons.mp h
    rcases List.mem_cons.mp ha with ea | ea <;> rcases List.mem_cons.mp hb with eb | eb
    · rw [ea, eb]
    · have := h1 b eb; rw [← ea] at this; omega
    · have := h1 a ea; rw [← eb] at this; omega
    · exact ih h2 ea eb
theorem by_place {O : List Ob} {ys : List (Int × Int)} (h : ys.Perm (tbl O)) (hp : ys.Pairwise (fun x y => x.2 ≤ y.2)) : ys = tbl O :=
  List.Perm.eq_of_pairwise (le := fun x y : Int × Int => x.2 ≤ y.2) (fun a b ha hb h1 h2 => pw_inj (tbl_lt O) (h.mem_iff.mp ha) hb (by omega)) hp ((tbl_lt O).imp fun h => by omega) h
theorem mem_valV {κ : Type} [DecidableEq κ] {kvs : List (κ × V)} {k : κ} {v : V} (nd : (kvs.map (·.1)).Nodup) (h : (k, v) ∈ kvs) : valV kvs k = some v := by
  induction kvs with
  | nil => simp at h
  | cons p r ih =>
    obtain ⟨h1, h2⟩ := List.nodup_cons.mp nd
    rcases List.mem_cons.mp h with e | e
    · subst e; exact valV_pos rfl
    · rw [valV_neg (fun z => h1 (by show p.1 ∈ _; rw [z]; exact List.mem_map.mpr ⟨_, e, rfl⟩))]
      exact ih h2 e
theorem pD_of {l : List (Key × V)} (h : ∀ p ∈ l, ∃ n i : Int, p = (.inl n, .int i)) : ∃ ps, l = pD ps := by
  induction l with
  | nil => exact ⟨[], rfl⟩
  | cons a r ih =>
    obtain ⟨n, i, e⟩ := h a List.mem_cons_self
    obtain ⟨ps, e2⟩ := ih fun p hp => h p (List.mem_cons_of_mem _ hp)
    exact ⟨(n, i) :: ps, by rw [e, e2]; rfl⟩
theorem pD_keys (ps : List (Int × Int)) : (pD ps).map (·.1) = (ps.map (·.1)).map Sum.inl := by unfold pD; rw [List.map_map, List.map_map]; rfl
theorem pD_nd {ps : List (Int × Int)} : ((pD ps).map (·.1)).Nodup ↔ (ps.map (·.1)).Nodup := by
  rw [pD_keys]
  constructor
  · exact fun h => (List.pairwise_map.mp h).imp fun h e => h (by rw [e])
  · exact fun h => List.pairwise_map.mpr (h.imp fun h e => h (Sum.inl.inj e))
theorem pD_iff {ps : List (Int × Int)} (nd : (ps.map (·.1)).Nodup) (k : Key) (v : V) : valV (pD ps) k = some v ↔ ∃ n i : Int, (n, i) ∈ ps ∧ k = .inl n ∧ v = .int i := by
  constructor
  · intro h
    obtain ⟨p, hp, e⟩ := List.mem_map.mp (show (k, v) ∈ ps.map _ from val_mem h)
    cases e
    exact ⟨p.1, p.2, hp, rfl, rfl⟩
  · rintro ⟨n, i, h, rfl, rfl⟩
    exact pD_val nd h
theorem Good.pairs {O : List Ob} {kvs : List (Key × V)} {least : Int} (G : Good O kvs least) : ∃ ps, kvs = pD ps ∧ (ps.map (·.1)).Nodup ∧ ps.Perm (tbl O) := by
  obtain ⟨ps, rfl⟩ := pD_of (l := kvs) fun p hp => by
    obtain ⟨i, o, h1, h2, h3, h4⟩ := (G.val p.1 p.2).mp (mem_valV G.nd hp)
    exact ⟨o.num, (off O i : Nat), by rw [← h3, ← h4]⟩
  have nd := pD_nd.mp G.nd
  refine ⟨ps, rfl, nd, ?_⟩
  have n1 : ps.Nodup := (List.pairwise_map.mp nd).imp fun h e => h (by rw [e])
  have n2 : (tbl O).Nodup := (tbl_lt O).imp fun h e => by rw [e] at h; omega
  refine (List.perm_ext_iff_of_nodup n1 n2).mpr fun z => ?_
  obtain ⟨n, p⟩ := z
  rw [tbl_mem]
  constructor
  · intro h
    obtain ⟨i, o, h1, h2, h3, h4⟩ := (G.val _ _).mp (pD_val nd h)
    exact ⟨i, o, h1, h2, Sum.inl.inj h3, V.int.inj h4⟩
  · rintro ⟨i, o, h1, h2, rfl, rfl⟩
    obtain ⟨n, i, h, e1, e2⟩ := (pD_iff nd _ _).mp (G.at h1 h2)
    cases e1
    cases e2
    exact h
theorem Good.nums {O : List Ob} {kvs : List (Key × V)} {least : Int} (G : Good O kvs least) : ((O.filter (·.live)).map (·.num)).Nodup := by
  obtain ⟨ms, m1, m2⟩ := G.ints
  have ndm : ms.Nodup := by
    have := G.nd
    rw [m1] at this
    exact (List.pairwise_map.mp this).imp fun h e => h (by rw [e])
  exact m2.nodup_iff.mp ndm
theorem all_live {O : List Ob} : ∀ o ∈ O.filter (·.live), o.live = true := fun o ho => (List.mem_filter.mp ho).2
theorem Good.close {O : List Ob} {kvs : List (Key × V)} {least : Int} (G : Good O kvs least) : Good (O.filter (·.live)) (pD (tbl (O.filter (·.live)))) least := by
  have e1 : (tbl (O.filter (·.live))).map (·.1) = (O.filter (·.live)).map (·.num) := by rw [tbl_fst, List.filter_filter]; simp
  have nd : ((tbl (O.filter (·.live))).map (·.1)).Nodup := by rw [e1]; exact G.nums
  refine ⟨fun k v => ?_, pD_nd.mpr nd, fun i j o p hi hj _ _ e => ?_, G.seen.1, fun n h0 h1 => ?_⟩
  · rw [pD_iff nd]
    constructor
    · rintro ⟨n, i, h, rfl, rfl⟩
      obtain ⟨j, o, h1, h2, rfl, rfl⟩ := (tbl_mem _ _ _).mp h
      exact ⟨j, o, h1, h2, rfl, rfl⟩
    · rintro ⟨j, o, h1, h2, rfl, rfl⟩
      exact ⟨_, _, (tbl_mem _ _ _).mpr ⟨j, o, h1, h2, rfl, rfl⟩, rfl, rfl⟩
  · have hl := (List.getElem?_eq_some_iff.mp hi).1
    refine (List.getElem?_inj (l := (O.filter (·.live)).map (·.num)) (by rw [List.length_map]; exact hl) G.nums).mp ?_
    rw [List.getElem?_map, List.getElem?_map, hi, hj, Option.map_some, Option.map_some, e]
  · have := G.seen.2 n h0 h1
    obtain ⟨i, o, h2, h3, rfl⟩ := (G.iff n).mp this
    have hm : o ∈ O.filter (·.live) := List.mem_filter.mpr ⟨List.mem_of_getElem? h2, h3⟩
    obtain ⟨j, hj⟩ := List.getElem?_of_mem hm
    rw [(pD_iff nd _ _).mpr ⟨o.num, _, (tbl_mem _ _ _).mpr ⟨j, o, hj, h3, rfl, rfl⟩, rfl, rfl⟩]
    rfl
/-- one is dropped -/
theorem kill_filter {O : List Ob} {kvs : List (Key × V)} {least : Int} (G : Good O kvs least) {i : Nat} {o : Ob} (h : O[i]? = some o) (ho : o.live = true) : (O.set i { o with live := false }).filter (·.live) = (O.filter (·.live)).filter fun p => !decide (p.num = o.num) := by
  have hi := (List.getElem?_eq_some_iff.mp h).1
  have e : O = O.take i ++ o :: O.drop (i + 1) := split_at h
  rw [List.set_eq_take_append_cons_drop, if_pos hi]
  have key : ∀ j p, O[j]? = some p → j ≠ i → p.live = true → ¬ p.num = o.num := fun j p hj ne lp en => ne (G.un j i p o hj h lp ho en)
  have k1 : (O.take i).filter (·.live) = ((O.take i).filter (·.live)).filter fun p => !decide (p.num = o.num) := by
    refine (List.filter_eq_self.mpr fun p hp => ?_).symm
    obtain ⟨h1, h2⟩ := List.mem_filter.mp hp
    obtain ⟨j, hj⟩ := List.getElem?_of_mem h1
    rw [List.getElem?_take] at hj
    split at hj
    · simp [key j p hj (by omega) h2]
    · cases hj
  have k2 : (O.drop (i + 1)).filter (·.live) = ((O.drop (i + 1)).filter (·.live)).filter fun p => !decide (p.num = o.num) := by
    refine (List.filter_eq_self.mpr fun p hp => ?_).symm
    obtain ⟨h1, h2⟩ := List.mem_filter.mp hp
    obtain ⟨j, hj⟩ := List.getElem?_of_mem h1
    rw [List.getElem?_drop] at hj
    simp [key _ p hj (by omega) h2]
  conv => rhs; rw [e]
  rw [List.filter_append, List.filter_append, List.filter_append, List.filter_cons_of_neg (by simp), List.filter_cons_of_pos (by exact ho), List.filter_cons_of_neg (by simp), ← k1, ← k2]

end LX
namespace LX
open PySem PySem.Spec PyProof.Rows L2 NdefX
/-- every old thing outside of F is kept, but for tables -/
def FrN (F : List Addr) (H H' : Hp) : Prop := ∀ b o, H b = some o → b ∉ F → (∀ ps, o ≠ .tbl ps) → H' b = some o
theorem Fr.n {F : List Addr} {H H' : Hp} (f : Fr F H H') : FrN F H H' := fun b o e n _ => f b o e n
theorem FrN.trans {F : List Addr} {H H1 H2 : Hp} (a : FrN F H H1) (b : FrN F H1 H2) : FrN F H H2 := fun c o e n t => b c o (a c o e n t) n t
theorem FrN.mono {F G : List Addr} {H H' : Hp} (a : FrN F H H') (h : ∀ b, b ∈ F → b ∈ G) : FrN G H H' := fun c o e n t => a c o e (fun m => n (h c m)) t
theorem FrN.lst {F : List Addr} {H H' : Hp} (a : FrN F H H') {b : Addr} {xs : List V} (e : H b = some (.lst xs)) (n : b ∉ F) : H' b = some (.lst xs) := a b _ e n (by intro ps z; cases z)
theorem tab_out {F : List Addr} {H H' : Hp} {P : Addr} {q : Str} (t : LamX.TabS H P q) (f : Fr F H H') (hF : ∀ b ∈ F, ∃ o, H b = some o ∧ (∀ ps, o ≠ .tbl ps) ∧ (∀ φ, o ≠ .ext φ)) : LamX.TabS H' P q := by
  obtain ⟨ps, h1, h2, h3⟩ := t
  refine ⟨ps, f _ _ h1 fun hm => ?_, h2, fun pos cv hc => ?_⟩
  · obtain ⟨o, e, n, _⟩ := hF _ hm
    rw [h1] at e
    exact n ps (Option.some.inj e).symm
  · obtain ⟨c, e1, e2⟩ := h3 pos cv hc
    refine ⟨c, e1, f _ _ e2 fun hm => ?_⟩
    obtain ⟨o, e, _, n⟩ := hF _ hm
    rw [e2] at e
    exact n _ (Option.some.inj e).symm
theorem StoreAt.keepN {H H' : Hp} {C st dx wl pl : Addr} {room entries least : Int} {ws : List Int} {kvs : List (Key × V)} (S : StoreAt H C st dx wl pl room entries least ws kvs) (f : LamX.ExtN H H') : StoreAt H' C st dx wl pl room entries least ws kvs :=
  ⟨f _ _ S.st (by intro ps z; cases z), f _ _ S.wl (by intro ps z; cases z), f _ _ S.pl (by intro ps z; cases z)⟩
section
variable {P : Program} {w : World} {K : PySem.W.Frag} {mg : Str → Option Value} {base : Heap}
theorem seg_fl {O : List Ob} {i : Nat} {o : Ob} (h : O[i]? = some o) : seg (flat O) (off O i) (3 + o.sl.length) = fl o := by
  unfold seg
  rw [flat_split h]
  unfold off
  rw [List.drop_left, ← fl_len, List.take_left]
def sp_close (C PT : Addr) : Sp := fun vs H Q _ => ∃ st dx wl pl room entries least kvs O, vs = [.ref st] ∧ StoreAt H C st dx wl pl room entries least (flat O) kvs ∧ Good O kvs least ∧ (flat O).length ≤ 100000 ∧ O.length ≤ 1000 ∧ LamX.TabS H PT qLam ∧
  ∀ H' wl' pl', StoreAt H' C st dx wl' pl' room entries least (flat (O.filter (·.live))) (pD (tbl (O.filter (·.live)))) → LamX.TabS H' PT qLam → FrN [st] H H' → H wl' = none → H pl' = none → Q .non H'
theorem ok_Store_close_up (W : WT P K mg base) : FnOk P w K mg base CX0 1 W.f_Store_close_up W.fd_Store_close_up ["self"] (sp_close W.c_Store W.PT_Store_close_up) := by
  refine W.G_Store_close_up.ok sc_Store_close_up (fun vs H Q E h => ?_) (fun A outer s H vs Q E hr h => ?_)
  · obtain ⟨st, dx, wl, pl, room, entries, least, kvs, O, rfl, _⟩ := h
    rfl
  · obtain ⟨st, dx, wl, pl, room, entries, least, kvs, O, rfl, S, G, hfl, hO, hT, k⟩ := h
    have hu1 := hu_of hr
    have hu64 := hu64_of hr
    refine ⟨_, (pss_cons (ps_set (i := 1) sc_Store_close_up.nd rfl (by first | exact Or.inl rfl | exact Or.inr rfl) (pe_lst pa_nil))
      (pss_cons (ps_set (i := 2) sc_Store_close_up.nd rfl (by first | exact Or.inl rfl | exact Or.inr rfl) pe_dnewK)
      (pss_cons (ps_set (i := 3) sc_Store_close_up.nd rfl (by first | exact Or.inl rfl | exact Or.inr rfl) (pe_fld (pv 0) rfl))
      (pss_cons (ps_for PassesOwn.never rfl (pi_list (pe_sortKeyLam (T := [(W.PT_Store_close_up, qLam)]) (c := W.cA_Store_close_up) (P := W.PT_Store_close_up) (i := 3) (x := "old") (y := "number") rfl hr rfl W.n_sorted rfl rfl W.TB rfl (List.mem_singleton.mpr rfl) (fun p hp _ => by cases List.mem_singleton.mp hp; rfl) rfl rfl rfl rfl (by decide +kernel) rfl rfl (by intro z hz e; rcases List.mem_cons.mp hz with h | h; (subst h; cases e); (cases List.mem_singleton.mp h; exact Or.inl rfl)) (fun _ _ _ _ _ _ => rfl) (by decide) (by decide) (by decide))) (pg_name (i := 4) sc_Store_close_up.nd rfl (by first | exact Or.inl rfl | exact Or.inr rfl)) (pss_cons (ps_set (i := 5) sc_Store_close_up.nd rfl (by first | exact Or.inl rfl | exact Or.inr rfl) (pe_ix (ix_U hu1) (pv 3) (pv 4) (fun _ _ => rfl)))
      (pss_cons (ps_dput hu1 (pv 2) (pv 4) (pe_callB call_lenU (by rfl) W.n_len bb_len (pa_cons (pv 1) pa_nil)) rfl)
      (pss_one (ps_expr (pe_bm PySem.F.plainAttrs_list PySem.F.slot_list_extend PySem.F.type_list_extend mt_extend (pv 1) (pa_cons (pe_slice sl_U (pe_fld (pv 0) rfl) (po_some (pv 5)) (po_some (pe_op op_addU (pe_op op_addU (pv 5) (pe_gi rfl W.g_HEADER)) (pe_ix (ix_U hu1) (pe_fld (pv 0) rfl) (pe_op op_addU (pv 5) pe_int) (fun _ _ => rfl))))) pa_nil)))))))
      (pss_cons (ps_fld (pv 0) (pv 1) rfl)
      (pss_one (ps_fld (pv 0) (pv 2) rfl))))))), ?_⟩
    refine ⟨(by show 0 ≤ sizeLine; decide), fun wn hwn => ?_⟩
    have f1 : Fr [] H (upd H wn (.lst [])) := Fr.new hwn
    have hw1 : upd H wn (.lst []) wn = some (.lst []) := upd_same
    generalize upd H wn (.lst []) = H1 at f1 hw1
    refine fun pn hpn => ?_
    have f2 : Fr [] H1 (upd H1 pn (.dK [])) := Fr.new hpn
    have hp2 : upd H1 pn (.dK []) pn = some (.dK []) := upd_same
    have hw2 := f2 _ _ hw1 (by simp)
    have nwp : wn ≠ pn := ne_of_none hw1 hpn
    have hpn0 : H pn = none := by
      cases e : H pn with
      | none => rfl
      | some o => rw [f1 _ _ e (by simp)] at hpn; cases hpn
    have f2 := f1.trans f2
    show gName 2 (V.ref pn) _ (upd H1 pn (.dK [])) _
    generalize upd H1 pn (.dK []) = H2 at f2 hp2 hw2
    have S2 := S.keep f2 (by simp)
    refine ⟨_, rfl, st, _, dx, _, _, rfl, S2.st, W.C_Store, W.na_Store__places, rfl, ?_⟩
    obtain ⟨ps, ek, nd, pm⟩ := G.pairs
    subst ek
    have T2 : LamX.TabS H2 W.PT_Store_close_up qLam := hT.ext fun b o e => f2 b o e (by simp)
    refine ⟨pl, ps, rfl, S2.pl, nd, (fun p hp => by cases List.mem_singleton.mp hp; exact T2), fun H3 eN T3 ys q py py2 hq => ?_⟩
    have T3 := T3 _ (List.mem_singleton.mpr rfl)
    have ey : ys = tbl O := by_place (py.trans pm) py2
    subst ey
    have S3 := S2.keepN eN
    have hw3 := eN _ _ hw2 (by intro ps z; cases z)
    have hp3 := eN _ _ hp2 (by intro ps z; cases z)
    have f3 : FrN [] H H3 := fun b o e n t => eN _ _ (f2 b o e n) t
    have f4 : Fr [] H3 (upd H3 q (.lst (((tbl O).map (·.1)).map V.int))) := Fr.new hq
    have hq4 : upd H3 q (.lst (((tbl O).map (·.1)).map V.int)) q = some (.lst (((tbl O).map (·.1)).map V.int)) := upd_same
    have T4 := T3.ext fun b o e => f4 b o e (by simp)
    have S4 := S3.keep f4 (by simp)
    have hw4 := f4 _ _ hw3 (by simp)
    have hp4 := f4 _ _ hp3 (by simp)
    have nqw : q ≠ wn := (ne_of_none hw3 hq).symm
    have f4 := f3.trans f4.n
    generalize upd H3 q (.lst (((tbl O).map (·.1)).map V.int)) = H4 at hq4 T4 S4 hw4 hp4 f4
    have lenT : (tbl O).length = (O.filter (·.live)).length := by
      have := congrArg List.length (tbl_fst O)
      rw [List.length_map, List.length_map] at this
      exact this
    have lenL := List.length_filter_le (fun o : Ob => o.live) O
    have wlw : wl ≠ wn := ne_of_none S.wl hwn
    have plp : pl ≠ pn := ne_of_none S.pl hpn0
    have stw : st ≠ wn := ne_of_none S.st hwn
    have stp : st ≠ pn := ne_of_none S.st hpn0
    refine ⟨q, rfl, ⟨_, SqL.of hq4⟩, ?_⟩
    refine for_list (K := K) (a := q) (xs := ((tbl O).map (·.1)).map V.int) (fun j σ H' => ∃ (v4 v5 : Option V), σ = [some (.ref st), some (.ref wn), some (.ref pn), some (.ref pl), v4, v5] ∧ H' q = some (.lst (((tbl O).map (·.1)).map V.int)) ∧ LamX.TabS H' W.PT_Store_close_up qLam ∧ StoreAt H' W.c_Store st dx wl pl room entries least (flat O) (pD ps) ∧ H' wn = some (.lst ((flat ((O.filter (·.live)).take j)).map V.int)) ∧ H' pn = some (.dK (pD (tbl ((O.filter (·.live)).take j)))) ∧ FrN [] H H')
      ⟨_, _, rfl, hq4, T4, S4, hw4, hp4, f4⟩ (fun j σ H5 _ hI => ?_) (fun j x σ H5 hx hI => ?_) (fun σ H5 hI => ?_)
    · obtain ⟨v4, v5, rfl, a1, _⟩ := hI
      exact SqL.of a1
    · obtain ⟨v4, v5, rfl, a1, a2, a3, a4, a5, a6⟩ := hI
      rw [List.map_map, List.getElem?_map] at hx
      obtain ⟨z, hz, rfl⟩ := Option.map_eq_some_iff.mp hx
      obtain ⟨n, pp⟩ := z
      obtain ⟨i, o, ho, hl, rfl, rfl⟩ := (tbl_mem O n pp).mp (List.mem_of_getElem? hz)
      have hoj : (O.filter (·.live))[j]? = some o := by
        have e1 : ((tbl O).map (·.1))[j]? = some o.num := by rw [List.getElem?_map, hz]; rfl
        rw [tbl_fst, List.getElem?_map] at e1
        obtain ⟨o2, h1, h2⟩ := Option.map_eq_some_iff.mp e1
        have m2 := List.mem_filter.mp (List.mem_of_getElem? h1)
        obtain ⟨i2, hi2⟩ := List.getElem?_of_mem m2.1
        have := G.un i2 i o2 o hi2 ho m2.2 hl h2
        subst this
        rw [ho] at hi2
        rw [h1, hi2]
      have hjlt : j < (O.filter (·.live)).length := (List.getElem?_eq_some_iff.mp hoj).1
      have htk : (O.filter (·.live)).take (j + 1) = (O.filter (·.live)).take j ++ [o] := by rw [List.take_succ, hoj]; rfl
      have hlen2 : (flat ((O.filter (·.live)).take j)).length + (fl o).length ≤ 200000 := by
        have h1 := off_lt hoj
        unfold off at h1
        have h2 : (flat (O.filter (·.live))).length ≤ (flat O).length := by
          have : ∀ l : List Ob, (flat (l.filter (·.live))).length ≤ (flat l).length := by
            intro l
            induction l with
            | nil => exact Nat.le_refl _
            | cons a r ih =>
              by_cases q : a.live = true
              · rw [List.filter_cons_of_pos (by exact q), flat_cons, flat_cons, List.length_append, List.length_append]; omega
              · rw [List.filter_cons_of_neg (by exact q), flat_cons, List.length_append]; omega
          exact this O
        rw [fl_len]
        omega
      -- place = old[number]
      refine ⟨_, rfl, _, rfl, Or.inr ⟨.int (off O i : Nat), by rw [← G.at ho hl]; exact DGet.k (k := Sum.inl o.num) a3.pl, ?_⟩⟩
      -- places[number] = len(words)
      refine ⟨_, rfl, Or.inl ⟨_, Or.inl (SqL.of a4), ?_⟩⟩
      rw [List.length_map]
      refine ⟨_, rfl, _, rfl, pn, _, rfl, DPut.k (k := Sum.inl o.num) a5 (by
        unfold pD tbl
        have := congrArg List.length (lvF_ob 0 ((O.filter (·.live)).take j))
        rw [List.length_map] at this
        have h2 := List.length_filter_le (fun o : Ob => o.live) ((O.filter (·.live)).take j)
        rw [List.length_take] at h2
        rw [List.length_map, List.length_map, sizeLine_eq]
        omega), ?_⟩
      have hnew : valV (pD (tbl ((O.filter (·.live)).take j))) (.inl o.num) = none := by
        cases e : valV (pD (tbl ((O.filter (·.live)).take j))) (.inl o.num) with
        | none => rfl
        | some v =>
          exfalso
          obtain ⟨m, i2, h1, h2, h3⟩ : ∃ n i : Int, (n, i) ∈ tbl ((O.filter (·.live)).take j) ∧ (Sum.inl o.num : Key) = .inl n ∧ v = .int i := by
            obtain ⟨p, hp, e2⟩ := List.mem_map.mp (show ((Sum.inl o.num : Key), v) ∈ (tbl ((O.filter (·.live)).take j)).map _ from val_mem e)
            obtain ⟨e3, e4⟩ := Prod.mk.inj e2
            exact ⟨p.1, p.2, hp, e3.symm, e4.symm⟩
          cases h2
          obtain ⟨i3, o3, h4, h5, h6, _⟩ := (tbl_mem _ _ _).mp h1
          rw [List.getElem?_take] at h4
          split at h4
          · rename_i hlt
            have := (List.getElem?_inj (l := (O.filter (·.live)).map (·.num)) (i := i3) (j := j) (by rw [List.length_map]; omega) G.nums).mp (by rw [List.getElem?_map, List.getElem?_map, h4, hoj, Option.map_some, Option.map_some, h6])
            omega
          · cases h4
      have eput : putK (pD (tbl ((O.filter (·.live)).take j))) (.inl o.num) (.int ((flat ((O.filter (·.live)).take j)).length : Int)) = pD (tbl ((O.filter (·.live)).take (j + 1))) := by
        rw [putK_new _ hnew, htk, tbl_snoc _ _ hl]
        unfold pD
        rw [List.map_append]
        rfl
      rw [eput]
      have npw := nwp.symm
      have npl : pl ≠ pn := plp
      have b1 : upd H5 pn (.dK (pD (tbl ((O.filter (·.live)).take (j + 1))))) pn = some (.dK (pD (tbl ((O.filter (·.live)).take (j + 1))))) := upd_same
      have fb : Fr [pn] H5 (upd H5 pn (.dK (pD (tbl ((O.filter (·.live)).take (j + 1)))))) := Fr.at (by simp)
      have nqp : q ≠ pn := ne_of a1 a5 (by intro z; cases z)
      have c1 := fb _ _ a1 (by simpa using nqp)
      have c2 := tab_out a2 fb (fun b hb => by
        have e : b = pn := by simpa using hb
        rw [e]
        exact ⟨_, a5, (by intro ps z; cases z), (by intro ps z; cases z)⟩)
      have nwlp : wl ≠ pn := ne_of a3.wl a5 (by intro z; cases z)
      have c3 := a3.keep fb (fun b hb h => by
        have h : b = pn := by simpa using h
        simp only [List.mem_cons, List.not_mem_nil, or_false] at hb
        rcases hb with e | e | e
        · exact stp (e.symm.trans h)
        · exact nwlp (e.symm.trans h)
        · exact plp (e.symm.trans h))
      have c4 := fb _ _ a4 (by simpa using nwp)
      have c6 : FrN [] H (upd H5 pn (.dK (pD (tbl ((O.filter (·.live)).take (j + 1)))))) := fun b o e n t => by rw [upd_ne (ne_of_none e hpn0)]; exact a6 b o e n t
      generalize upd H5 pn (.dK (pD (tbl ((O.filter (·.live)).take (j + 1))))) = H6 at b1 c1 c2 c3 c4 c6
      -- words.extend(..)
      refine ⟨_, rfl, Or.inl ⟨rfl, _, SqL.of c4⟩, ?_⟩
      refine ⟨_, rfl, st, _, dx, _, _, rfl, c3.st, W.C_Store, W.na_Store_words, rfl, ?_⟩
      refine ⟨_, rfl, _, rfl, ?_⟩
      refine ⟨_, rfl, ?_⟩
      refine ⟨_, rfl, st, _, dx, _, _, rfl, c3.st, W.C_Store, W.na_Store_words, rfl, ?_⟩
      refine ⟨_, rfl, ?_⟩
      refine Or.inl ⟨_, _, _, rfl, Or.inl (SqL.of c3.wl), atI_nat (j := off O i + 1) (int_at (flat_size ho)), ?_⟩
      refine ⟨_, rfl, ?_⟩
      refine Or.inl ⟨wl, _, rfl, SqL.of c3.wl, fun l hl1 => ?_⟩
      have ecut : cutV ((flat O).map V.int) (some ((off O i : Nat) : Int)) (some (((off O i : Nat) : Int) + 3 + (o.sl.length : Int))) = (fl o).map V.int := by
        have h := cut_seg (ws := flat O) (p := off O i) (n := 3 + o.sl.length) (by have := off_lt ho; omega)
        rw [seg_fl ho] at h
        rw [← h]
        congr 2
        omega
      rw [ecut]
      have nwl : wn ≠ l := ne_of_none c4 hl1
      have g7 : Fr [] H6 (upd H6 l (.lst ((fl o).map V.int))) := Fr.new hl1
      have hl7 : upd H6 l (.lst ((fl o).map V.int)) l = some (.lst ((fl o).map V.int)) := upd_same
      generalize upd H6 l (.lst ((fl o).map V.int)) = H7 at g7 hl7
      have c1 := g7 _ _ c1 (by simp)
      have c2 := c2.ext fun b o e => g7 b o e (by simp)
      have c3 := c3.keep g7 (by simp)
      have c4 := g7 _ _ c4 (by simp)
      have b1 := g7 _ _ b1 (by simp)
      have c6 := c6.trans g7.n
      refine ⟨wn, l, _, _, rfl, rfl, c4, hl7, by rw [List.length_map, List.length_map, sizeLine_eq]; omega, ?_⟩
      have ecat : (flat ((O.filter (·.live)).take j)).map V.int ++ (fl o).map V.int = (flat ((O.filter (·.live)).take (j + 1))).map V.int := by
        rw [htk, flat_app, ← List.map_append]
        congr 2
        show fl o = fl o ++ []
        rw [List.append_nil]
      rw [ecat]
      have fd : Fr [wn] H7 (upd H7 wn (.lst ((flat ((O.filter (·.live)).take (j + 1))).map V.int))) := Fr.at (by simp)
      refine ⟨_, _, rfl, fd _ _ c1 (by simpa using nqw), tab_out c2 fd (fun b hb => by
        have e : b = wn := by simpa using hb
        rw [e]
        exact ⟨_, c4, (by intro ps z; cases z), (by intro ps z; cases z)⟩), c3.keep fd (fun b hb h => by
        have h : b = wn := by simpa using h
        simp only [List.mem_cons, List.not_mem_nil, or_false] at hb
        rcases hb with e | e | e
        · exact stw (e.symm.trans h)
        · exact wlw (e.symm.trans h)
        · exact (ne_of c3.pl c4 (by intro z; cases z)) (e.symm.trans h)), upd_same, fd _ _ b1 (by simpa using nwp.symm), fun b o e n t => by rw [upd_ne (ne_of_none e hwn)]; exact c6 b o e n t⟩
    · obtain ⟨v4, v5, rfl, a1, a2, a3, a4, a5, a6⟩ := hI
      have elen : ((((tbl O).map (·.1)).map V.int)).length = (O.filter (·.live)).length := by rw [List.length_map, List.length_map, lenT]
      rw [elen, List.take_length] at a4 a5
      refine ⟨_, rfl, _, rfl, st, _, dx, _, rfl, a3.st, W.C_Store, W.na_Store_words, (by show 5 < 1000; decide), ?_⟩
      refine ⟨_, rfl, _, rfl, st, _, dx, _, rfl, upd_same, W.C_Store, W.na_Store__places, (by show 5 < 1000; decide), ?_⟩
      rw [upd_upd]
      have fd : Fr [st] H5 (upd H5 st (.ins W.c_Store dx (sF room entries wn pn least))) := Fr.at (by simp)
      refine k _ wn pn ⟨upd_same, fd _ _ a4 (by simpa using stw.symm), fd _ _ a5 (by simpa using stp.symm)⟩ (tab_out a2 fd (fun b hb => by
        have e : b = st := by simpa using hb
        rw [e]
        exact ⟨_, a3.st, (by intro ps z; cases z), (by intro ps z; cases z)⟩)) ((a6.mono (by simp)).trans fd.n) hwn hpn0
end

end LX
namespace LX
open PySem PySem.Spec PyProof.Rows L2 NdefX
section
variable {P : Program} {w : World} {K : PySem.W.Frag} {mg : Str → Option Value} {base : Heap}
def kept (O : List Ob) (F : List Int) : List Ob := (O.filter (·.live)).filter fun p => decide (p.num ∈ F)
def sp_collect (C PT : Addr) : Sp := fun vs H Q _ => ∃ st dx wl pl room entries least O kvs ra, ∃ rs : List Int, vs = [.ref st, .ref ra] ∧ StoreAt H C st dx wl pl room entries least (flat O) kvs ∧ Good O kvs least ∧ (∀ o ∈ O, o.sl.length ≤ 99) ∧ (∀ o ∈ O, 0 ≤ o.num) ∧ O.length ≤ 900 ∧ IsI H ra rs ∧ rs.length ≤ 65 ∧ LamX.TabS H PT qLam ∧
  ∀ F H' wl' pl' least', F.Nodup → (∀ n, n ∈ F ↔ Reach O rs n) → StoreAt H' C st dx wl' pl' room entries least' (flat (kept O F)) (pD (tbl (kept O F))) → Good (kept O F) (pD (tbl (kept O F))) least' → LamX.TabS H' PT qLam → FrN [st, wl, pl] H H' → H wl' = none → H pl' = none → Q (.int (((O.filter (·.live)).length : Int) - (F.length : Int))) H'
theorem ok_collect (W : WT P K mg base) : FnOk P w K mg base CX0 4 W.f_collect W.fd_collect ["store", "roots"] (sp_collect W.c_Store W.PT_Store_close_up) := by
  refine W.F_collect.ok sc_collect (fun vs H Q E h => ?_) (fun cdv Ar outer s H vs Q E hr h => ?_)
  · obtain ⟨st, dx, wl, pl, room, entries, least, O, kvs, ra, rs, rfl, _⟩ := h
    rfl
  · obtain ⟨st, dx, wl, pl, room, entries, least, O, kvs, ra, rs, rfl, S, G, sz, nn, hO, hra, hrs, hT, k⟩ := h
    have hu1 := hu_of hr
    have hu64 := hu64_of hr
    refine ⟨_, (pss_cons (ps_set (i := 2) sc_collect.nd rfl (by first | exact Or.inl rfl | exact Or.inr rfl) (pe_call (ok_reached W) (hr.mono (by decide)) rfl W.g_reached W.F_reached.kp W.b_reached .nil pass0 (pa_cons (pv 0) (pa_cons (pv 1) pa_nil))))
      (pss_cons (ps_setLc (i := 3) (own := [("number", 4)]) (g := gName 4)  rfl sc_collect.nd rfl rfl (sw_true rfl rfl rfl (by decide +kernel)) (pi_list (pe_meth0 (pv 0) W.C_Store W.m_Store_numbers (ok_Store_numbers W) (hr.mono (by decide)) W.b_Store_numbers .nil pass0 )) (blkOk_by (N := N_collect) (sc := defScope s_collect) (by first | decide +kernel | rfl)) (fun _ _ _ _ _ => (pg_name (i := 4) sc_collect.nd rfl (by first | exact Or.inl rfl | exact Or.inr rfl))) (fun _ _ _ _ _ => pts_one (pt_cmpR (op_ninUK (K := K) rfl (by exact hu1)) (pv 4) (pv 2) (by first | exact nomark _ | rfl))) (fun _ _ _ _ _ => (pv 4)))
      (pss_cons (ps_for PassesOwn.never rfl (pi_list (pv 3)) (pg_name (i := 4) sc_collect.nd rfl (by first | exact Or.inl rfl | exact Or.inr rfl)) (pss_one (ps_expr (pe_meth (pv 0) W.C_Store W.m_Store_drop (ok_Store_drop W) (hr.mono (by decide)) W.b_Store_drop .nil pass0 (pa_cons (pv 4) pa_nil)))))
      (pss_cons (ps_expr (pe_meth0 (pv 0) W.C_Store W.m_Store_close_up (ok_Store_close_up W) (hr.mono (by decide)) W.b_Store_close_up .nil pass0 ))
      (pss_one (ps_ret (pe_callB call_lenU (by rfl) W.n_len bb_len (pa_cons (pv 3) pa_nil)))))))), ?_⟩
    refine ⟨_, rfl, _, rfl, ?_⟩
    refine ⟨st, dx, wl, pl, room, entries, least, O, kvs, ra, rs, rfl, S, G, sz, (by omega), hra, hrs, fun D F H1 hD0 hD ndF hF f1 => ?_⟩
    have S1 := S.keep f1 (by simp)
    have T1 := hT.ext fun b o e => f1 b o e (by simp)
    obtain ⟨ns, n1, n2⟩ := G.ints
    have Flen : F.length ≤ O.length := live_len ndF fun n hn => ((hF n).mp hn).live
    refine ⟨_, rfl, st, dx, _, rfl, S1.st, rfl, ?_⟩
    refine ⟨st, dx, wl, pl, _, _, least, _, kvs, ns, rfl, S1, n1, fun ms q pm ps hq => ?_⟩
    have g2 : Fr [] H1 (upd H1 q (.lst (ms.map V.int))) := Fr.new hq
    have hq2 : upd H1 q (.lst (ms.map V.int)) q = some (.lst (ms.map V.int)) := upd_same
    have hD2 := g2 _ _ hD (by simp)
    have S2 := S1.keep g2 (by simp)
    have T2 := T1.ext fun b o e => g2 b o e (by simp)
    generalize upd H1 q (.lst (ms.map V.int)) = H2 at g2 hq2 hD2 S2 T2
    have f2 := f1.trans g2
    have lms : ms.length ≤ 900 := by
      rw [pm.length_eq, n2.length_eq, List.length_map]
      have := List.length_filter_le (fun o : Ob => o.live) O
      omega
    refine ⟨q, rfl, ⟨_, SqL.of hq2⟩, fun gA hgA => ?_⟩
    refine lc_list (K := K) (a := q) (xs := ms.map V.int) (fun i H' => H' = upd H2 gA (.lst (((ms.take i).filter fun n => !decide (n ∈ F)).map V.int))) rfl (fun i H' _ e => ?_) (fun i x H' hx e => ?_) (fun H' e => ?_)
    · subst e
      exact SqL.of (Fr.new (F := []) (o := .lst (((ms.take i).filter fun n => !decide (n ∈ F)).map V.int)) hgA q _ hq2 (by simp))
    · subst e
      rw [List.getElem?_map] at hx
      obtain ⟨n, hn, rfl⟩ := Option.map_eq_some_iff.mp hx
      have hD3 := Fr.new (F := []) (o := .lst (((ms.take i).filter fun n => !decide (n ∈ F)).map V.int)) hgA D _ hD2 (by simp)
      have lt : ((ms.take i).filter fun n => !decide (n ∈ F)).length ≤ 900 := by
        have := List.length_filter_le (fun n => !decide (n ∈ F)) (ms.take i)
        rw [List.length_take] at this
        omega
      refine ⟨rfl, ?_⟩
      refine ⟨_, rfl, _, rfl, Or.inr ⟨_, DGet.k (k := Sum.inl n) hD3, ?_⟩⟩
      rw [dF_val]
      refine ⟨_, rfl, ?_⟩
      by_cases hn2 : n ∈ F
      · rw [if_pos hn2]
        refine iteF ?_
        rw [take_filter_no hn (by simp [hn2])]
      · rw [if_neg hn2]
        refine iteT ?_
        refine ⟨_, rfl, _, upd_same, by rw [List.length_map, sizeLine_eq]; omega, ?_⟩
        rw [upd_upd, take_filter_yes hn (by simp [hn2]), List.map_append]; rfl
    subst e
    rw [List.length_map, List.take_length]
    generalize eG : (ms.filter fun n => !decide (n ∈ F)) = Gn
    have g3 : Fr [] H2 (upd H2 gA (.lst (Gn.map V.int))) := Fr.new hgA
    have hg3 : upd H2 gA (.lst (Gn.map V.int)) gA = some (.lst (Gn.map V.int)) := upd_same
    have S3 := S2.keep g3 (by simp)
    have T3 := T2.ext fun b o e => g3 b o e (by simp)
    have f3 := f2.trans g3
    have hg0 : H gA = none := by
      cases e : H gA with
      | none => rfl
      | some o => rw [f2 _ _ e (by simp)] at hgA; cases hgA
    generalize upd H2 gA (.lst (Gn.map V.int)) = H3 at g3 hg3 S3 T3 f3
    have nst : st ≠ pl := ne_of S3.st S3.pl (by intro z; cases z)
    have ngs : gA ≠ st := ne_of hg3 S3.st (by intro z; cases z)
    have ngp : gA ≠ pl := ne_of hg3 S3.pl (by intro z; cases z)
    have nwp : wl ≠ pl := ne_of S3.wl S3.pl (by intro z; cases z)
    have nwst : wl ≠ st := ne_of S3.wl S3.st (by intro z; cases z)
    have ndms : ms.Nodup := pm.nodup_iff.mpr (n2.nodup_iff.mpr G.nums)
    have ndG : Gn.Nodup := by rw [← eG]; exact ndms.filter _
    have memG : ∀ n, n ∈ Gn ↔ (n ∈ (O.filter (·.live)).map (·.num)) ∧ n ∉ F := fun n => by
      rw [← eG, List.mem_filter, pm.mem_iff, n2.mem_iff]
      simp
    have lenG : (Gn.length : Int) = ((O.filter (·.live)).length : Int) - (F.length : Int) := by
      have p1 : (Gn ++ F).Perm ((O.filter (·.live)).map (·.num)) := by
        refine perm_of (List.nodup_append.mpr ⟨ndG, ndF, fun a ha b hb e => ?_⟩) G.nums fun n => ?_
        · subst e; exact ((memG a).mp ha).2 hb
        · rw [List.mem_append, memG]
          constructor
          · rintro (h | h)
            · exact h.1
            · obtain ⟨i, o, h1, h2, h3⟩ := ((hF n).mp h).live
              exact List.mem_map.mpr ⟨o, List.mem_filter.mpr ⟨List.mem_of_getElem? h1, h2⟩, h3⟩
          · intro h
            by_cases q : n ∈ F
            · exact Or.inr q
            · exact Or.inl ⟨h, q⟩
      have := p1.length_eq
      rw [List.length_append, List.length_map] at this
      omega
    refine ⟨_, rfl, gA, rfl, ⟨_, SqL.of hg3⟩, ?_⟩
    refine for_list (K := K) (a := gA) (xs := Gn.map V.int) (fun j σ H' => ∃ (v4 : Option V) (Oj : List Ob) (kj : List (Key × V)) (lj : Int), σ = [some (.ref st), some (.ref ra), some (.ref D), some (.ref gA), v4] ∧ StoreAt H' W.c_Store st dx wl pl room entries lj (flat O) kj ∧ Good Oj kj lj ∧ flat Oj = flat O ∧ Oj.length = O.length ∧ (∀ o ∈ Oj, 0 ≤ o.num) ∧ Oj.filter (·.live) = (O.filter (·.live)).filter (fun p => !decide (p.num ∈ Gn.take j)) ∧ H' gA = some (.lst (Gn.map V.int)) ∧ LamX.TabS H' W.PT_Store_close_up qLam ∧ Fr [st, pl] H H')
      ⟨_, O, kvs, least, rfl, S3, G, rfl, rfl, nn, by simp, hg3, T3, f3.mono (by simp)⟩ (fun j σ H4 _ hI => ?_) (fun j x σ H4 hx hI => ?_) (fun σ H4 hI => ?_)
    · obtain ⟨v4, Oj, kj, lj, rfl, a1, a2, a3, a4, a5, a6, a7, a8, a9⟩ := hI
      exact SqL.of a7
    · obtain ⟨v4, Oj, kj, lj, rfl, a1, a2, a3, a4, a5, a6, a7, a8, a9⟩ := hI
      rw [List.getElem?_map] at hx
      obtain ⟨n, hn, rfl⟩ := Option.map_eq_some_iff.mp hx
      have hnG := List.mem_of_getElem? hn
      obtain ⟨o, ho, hon⟩ := List.mem_map.mp ((memG n).mp hnG).1
      have hnt : n ∉ Gn.take j := fun h => by
        obtain ⟨i, hi⟩ := List.getElem?_of_mem h
        rw [List.getElem?_take] at hi
        split at hi
        · rename_i hlt
          have hi2 := (List.getElem?_eq_some_iff.mp hi).1
          have := (List.getElem?_inj (l := Gn) (i := i) (j := j) hi2 ndG).mp (by rw [hi, hn])
          omega
        · cases hi
      have hoj : o ∈ Oj.filter (·.live) := by
        rw [a6]
        exact List.mem_filter.mpr ⟨ho, by rw [hon]; simp [hnt]⟩
      obtain ⟨m1, m2⟩ := List.mem_filter.mp hoj
      obtain ⟨i, hi⟩ := List.getElem?_of_mem m1
      have m2 : o.live = true := m2
      subst hon
      refine ⟨_, rfl, st, dx, _, rfl, a1.st, rfl, ?_⟩
      refine ⟨_, rfl, ?_⟩
      refine ⟨st, dx, wl, pl, _, _, lj, _, kj, o.num, rfl, a1, by rw [a2.at hi m2]; rfl, fun H5 S5 k5 => ?_⟩
      have fd : Fr [st, pl] H4 H5 := Fr.of k5 (by simp) (by simp)
      refine ⟨_, Oj.set i { o with live := false }, _, _, rfl, S5, a2.kill hi m2 (a5 o m1), by rw [flat_kill hi]; exact a3, by rw [List.length_set]; exact a4, fun p hp => ?_, ?_, fd _ _ a7 (by simp [ngs, ngp]), tab_out a8 fd (fun b hb => ?_), a9.trans fd⟩
      · rcases List.mem_or_eq_of_mem_set hp with hp | rfl
        · exact a5 p hp
        · exact a5 o m1
      · rw [kill_filter a2 hi m2, a6, List.filter_filter]
        refine List.filter_congr fun p _ => ?_
        have e : Gn.take (j + 1) = Gn.take j ++ [o.num] := by rw [List.take_succ, hn]; rfl
        rw [e]
        by_cases h1 : p.num ∈ Gn.take j <;> by_cases h2 : p.num = o.num <;> simp [h1, h2]
      · simp only [List.mem_cons, List.not_mem_nil, or_false] at hb
        rcases hb with e | e
        · rw [e]; exact ⟨_, a1.st, (by intro ps z; cases z), (by intro ps z; cases z)⟩
        · rw [e]; exact ⟨_, a1.pl, (by intro ps z; cases z), (by intro ps z; cases z)⟩
    · obtain ⟨v4, Oj, kj, lj, rfl, a1, a2, a3, a4, a5, a6, a7, a8, a9⟩ := hI
      rw [List.length_map, List.take_length] at a6
      have fl2 := flat_len sz
      have ek : Oj.filter (·.live) = kept O F := by
        rw [a6]
        unfold kept
        refine List.filter_congr fun p hp => ?_
        by_cases h : p.num ∈ F
        · have : p.num ∉ Gn := fun z => ((memG _).mp z).2 h
          simp [h, this]
        · have : p.num ∈ Gn := (memG _).mpr ⟨List.mem_map.mpr ⟨p, hp, rfl⟩, h⟩
          simp [h, this]
      refine ⟨_, rfl, st, dx, _, rfl, a1.st, rfl, ?_⟩
      refine ⟨st, dx, wl, pl, _, _, lj, kj, Oj, rfl, by rw [a3]; exact a1, a2, by rw [a3]; omega, by omega, a8, fun H6 wl' pl' S6 T6 f6 hw hp => ?_⟩
      rw [ek] at S6
      have G6 := a2.close
      rw [ek] at G6
      have hg6 := f6.lst a7 (by simpa using ngs)
      refine ⟨_, rfl, Or.inl ⟨_, Or.inl (SqL.of hg6), ?_⟩⟩
      rw [List.length_map, lenG]
      have back : ∀ c, H4 c = none → H c = none := fun c hc => by
        cases e : H c with
        | none => rfl
        | some o =>
          by_cases hm : c ∈ [st, pl]
          · simp only [List.mem_cons, List.not_mem_nil, or_false] at hm
            rcases hm with h | h
            · rw [h, a1.st] at hc; cases hc
            · rw [h, a1.pl] at hc; cases hc
          · rw [a9 _ _ e hm] at hc; cases hc
      exact k F H6 wl' pl' lj ndF hF S6 G6 T6 ((a9.n.mono (by simp)).trans (f6.mono (by simp))) (back _ hw) (back _ hp)
end

end LX
namespace LX
open PySem PySem.Spec PyProof.Rows L2 NdefX
section
variable {P : Program} {w : World} {K : PySem.W.Frag} {mg : Str → Option Value} {base : Heap}
def pF (st pr rt hd : Addr) (al co : Int) : List (Str × V) := [("store", .ref st), ("pressure", .ref pr), ("always", .bl false), ("allocations", .int al), ("collections", .int co), ("_roots", .ref rt), ("_held", .ref hd), ("_saved", .non)]
structure SpaceAt (H : Hp) (C sp dx st pr rt hd : Addr) (al co : Int) (rs hs : List Int) : Prop where
  sp : H sp = some (.ins C dx (pF st pr rt hd al co))
  pr : H pr = some (.lst [])
  rt : H rt = some (.lst (rs.map V.int))
  hd : H hd = some (.lst (hs.map V.int))
theorem SpaceAt.keep {H H' : Hp} {C sp dx st pr rt hd : Addr} {al co : Int} {rs hs : List Int} (S : SpaceAt H C sp dx st pr rt hd al co rs hs) {F : List Addr} (f : Fr F H H') (h : ∀ b ∈ [sp, pr, rt, hd], b ∉ F) : SpaceAt H' C sp dx st pr rt hd al co rs hs :=
  ⟨f _ _ S.sp (h _ (by simp)), f _ _ S.pr (h _ (by simp)), f _ _ S.rt (h _ (by simp)), f _ _ S.hd (h _ (by simp))⟩
def sp_allr : Addr → Sp := fun C vs H Q _ => ∃ sp dx st pr rt hd al co rs hs, vs = [.ref sp] ∧ SpaceAt H C sp dx st pr rt hd al co rs hs ∧ rs.length ≤ 1000 ∧ hs.length ≤ 1000 ∧
  ∀ l H', H' l = some (.lst ((0 :: (rs ++ hs)).map V.int)) → H l = none → Fr [] H H' → Q (.ref l) H'
theorem ok_Space_all_roots (W : WT P K mg base) : FnOk P w K mg base CX0 1 W.f_Space_all_roots W.fd_Space_all_roots ["self"] (sp_allr W.c_Space) := by
  refine W.F_Space_all_roots.ok sc_Space_all_roots (fun vs H Q E h => ?_) (fun cdv A outer s H vs Q E hr h => ?_)
  · obtain ⟨sp, dx, st, pr, rt, hd, al, co, rs, hs, rfl, _⟩ := h
    rfl
  · obtain ⟨sp, dx, st, pr, rt, hd, al, co, rs, hs, rfl, S, h1, h2, k⟩ := h
    have hu1 := hu_of hr
    have hu64 := hu64_of hr
    refine ⟨_, (pss_one (ps_ret (pe_op op_addU (pe_op op_addU (pe_lst (pa_cons (pe_gi rfl W.g_NIL) pa_nil)) (pe_fld (pv 0) rfl)) (pe_fld (pv 0) rfl)))), ?_⟩
    refine ⟨(by show 1 ≤ sizeLine; decide), fun q hq => ?_⟩
    have f1 : Fr [] H (upd H q (.lst [.int 0])) := Fr.new hq
    have q1 : upd H q (.lst [.int 0]) q = some (.lst [.int 0]) := upd_same
    generalize upd H q (.lst [.int 0]) = H1 at f1 q1
    have S1 := S.keep f1 (by simp)
    refine ⟨_, rfl, sp, _, dx, _, _, rfl, S1.sp, W.C_Space, W.na_Space__roots, rfl, ?_⟩
    refine Or.inl ⟨q, rt, _, _, rfl, rfl, q1, S1.rt, (by rw [List.length_map, sizeLine_eq]; show 1 + rs.length ≤ _; omega), fun q2 hq2 => ?_⟩
    have f2 : Fr [] H1 (upd H1 q2 (.lst ([V.int 0] ++ rs.map V.int))) := Fr.new hq2
    have q2' : upd H1 q2 (.lst ([V.int 0] ++ rs.map V.int)) q2 = some (.lst ([V.int 0] ++ rs.map V.int)) := upd_same
    generalize upd H1 q2 (.lst ([V.int 0] ++ rs.map V.int)) = H2 at f2 q2'
    have S2 := S1.keep f2 (by simp)
    have f2 := f1.trans f2
    refine ⟨_, rfl, sp, _, dx, _, _, rfl, S2.sp, W.C_Space, W.na_Space__held, rfl, ?_⟩
    refine Or.inl ⟨q2, hd, _, _, rfl, rfl, q2', S2.hd, (by rw [List.length_append, List.length_map, List.length_map, sizeLine_eq]; show 1 + rs.length + hs.length ≤ _; omega), fun q3 hq3 => ?_⟩
    have e : [V.int 0] ++ rs.map V.int ++ hs.map V.int = (0 :: (rs ++ hs)).map V.int := by rw [List.map_cons, List.map_append]; rfl
    rw [e]
    exact k q3 _ upd_same (by
      cases e : H q3 with
      | none => rfl
      | some o => rw [f2 _ _ e (by simp)] at hq3; cases hq3) (f2.trans (Fr.new hq3))
def sp_sroot : Addr → Sp := fun C vs H Q _ => ∃ sp dx st pr rt hd al co rs hs, ∃ (k : Nat) (x : Int), vs = [.ref sp, .int (k : Int), .int x] ∧ SpaceAt H C sp dx st pr rt hd al co rs hs ∧ k < rs.length ∧ Q .non (upd H rt (.lst ((rs.set k x).map V.int)))
theorem ok_Space_set_root (W : WT P K mg base) : FnOk P w K mg base CX0 1 W.f_Space_set_root W.fd_Space_set_root ["self", "k", "word"] (sp_sroot W.c_Space) := by
  refine W.F_Space_set_root.ok sc_Space_set_root (fun vs H Q E h => ?_) (fun cdv A outer s H vs Q E hr h => ?_)
  · obtain ⟨sp, dx, st, pr, rt, hd, al, co, rs, hs, n, x, rfl, _⟩ := h
    rfl
  · obtain ⟨sp, dx, st, pr, rt, hd, al, co, rs, hs, n, x, rfl, S, h1, k⟩ := h
    have hu1 := hu_of hr
    have hu64 := hu64_of hr
    refine ⟨_, (pss_one (ps_asg (pv 2) (pg_sub (pe_fld (pv 0) rfl) (pv 1) set_list))), ?_⟩
    refine ⟨_, rfl, ?_⟩
    refine ⟨_, rfl, sp, _, dx, _, _, rfl, S.sp, W.C_Space, W.na_Space__roots, rfl, ?_⟩
    refine ⟨_, rfl, rt, _, _, n, rfl, rfl, S.rt, ixN_nat (by rw [List.length_map]; exact h1), ?_⟩
    rw [set_int]
    exact k
def sp_hold : Addr → Sp := fun C vs H Q _ => ∃ sp dx st pr rt hd al co rs hs, ∃ x : Int, vs = [.ref sp, .int x] ∧ SpaceAt H C sp dx st pr rt hd al co rs hs ∧ hs.length ≤ 1000 ∧ Q (.int x) (upd H hd (.lst ((hs ++ [x]).map V.int)))
theorem ok_Space_hold (W : WT P K mg base) : FnOk P w K mg base CX0 1 W.f_Space_hold W.fd_Space_hold ["self", "word"] (sp_hold W.c_Space) := by
  refine W.F_Space_hold.ok sc_Space_hold (fun vs H Q E h => ?_) (fun cdv A outer s H vs Q E hr h => ?_)
  · obtain ⟨sp, dx, st, pr, rt, hd, al, co, rs, hs, x, rfl, _⟩ := h
    rfl
  · obtain ⟨sp, dx, st, pr, rt, hd, al, co, rs, hs, x, rfl, S, h1, k⟩ := h
    have hu1 := hu_of hr
    have hu64 := hu64_of hr
    refine ⟨_, (pss_cons (ps_expr (pe_bm PySem.F.plainAttrs_list PySem.F.slot_list_append PySem.F.type_list_append mt_append (pe_fld (pv 0) rfl) (pa_cons (pv 1) pa_nil)))
      (pss_one (ps_ret (pv 1)))), ?_⟩
    refine ⟨_, rfl, sp, _, dx, _, _, rfl, S.sp, W.C_Space, W.na_Space__held, rfl, Or.inl ⟨rfl, _, SqL.of S.hd⟩, ?_⟩
    refine ⟨_, rfl, hd, _, _, rfl, rfl, S.hd, (by rw [List.length_map, sizeLine_eq]; omega), ?_⟩
    rw [show hs.map V.int ++ [V.int x] = (hs ++ [x]).map V.int by rw [List.map_append]; rfl]
    exact ⟨_, rfl, k⟩
end

end LX
namespace LX
open PySem PySem.Spec PyProof.Rows L2 NdefX
section
variable {P : Program} {w : World} {K : PySem.W.Frag} {mg : Str → Option Value} {base : Heap}
def sp_objof : Addr → Addr → Sp := fun CS C vs H Q _ => ∃ sp dxs st pr rt hd al co rs hs dx wl pl room entries least O kvs, ∃ x : Int, vs = [.ref sp, .int x] ∧ SpaceAt H CS sp dxs st pr rt hd al co rs hs ∧ StoreAt H C st dx wl pl room entries least (flat O) kvs ∧ Good O kvs least ∧
  (x % 2 = 0 → Live O (x / 2) → Q (.int (x / 2)) H) ∧ (¬ (x % 2 = 0 ∧ Live O (x / 2)) → Q .non H)
theorem ok_object_of (W : WT P K mg base) : FnOk P w K mg base CX0 3 W.f_object_of W.fd_object_of ["space", "word"] (sp_objof W.c_Space W.c_Store) := by
  refine W.F_object_of.ok sc_object_of (fun vs H Q E h => ?_) (fun cdv A outer s H vs Q E hr h => ?_)
  · obtain ⟨sp, dxs, st, pr, rt, hd, al, co, rs, hs, dx, wl, pl, room, entries, least, O, kvs, x, rfl, _⟩ := h
    rfl
  · obtain ⟨sp, dxs, st, pr, rt, hd, al, co, rs, hs, dx, wl, pl, room, entries, least, O, kvs, x, rfl, S, T, G, k1, k2⟩ := h
    have hu1 := hu_of hr
    have hu64 := hu64_of hr
    refine ⟨_, (pss_cons (ps_if (PW.pt (pw_and (pt_truth (pe_call (ok_is_ref W) (hr.mono (by decide)) rfl W.g_is_ref W.F_is_ref.kp W.b_is_ref .nil pass0 (pa_cons (pv 1) pa_nil)) (by intro _; rfl)) (pw_and1 (pt_truth (pe_meth (pe_fld (pv 0) rfl) W.C_Store W.m_Store_exists (ok_Store_exists W) (hr.mono (by decide)) W.b_Store_exists .nil pass0 (pa_cons (pe_call (ok_ref_of W) (hr.mono (by decide)) rfl W.g_ref_of W.F_ref_of.kp W.b_ref_of .nil pass0 (pa_cons (pv 1) pa_nil)) pa_nil)) (by intro _; rfl))))) (pss_one (ps_ret (pe_call (ok_ref_of W) (hr.mono (by decide)) rfl W.g_ref_of W.F_ref_of.kp W.b_ref_of .nil pass0 (pa_cons (pv 1) pa_nil)))) pss_nil)
      (pss_one (ps_ret pe_non))), ?_⟩
    refine ⟨_, rfl, x, rfl, ?_⟩
    refine ⟨_, rfl, ?_⟩
    refine iteD (fun h1 => ?_) (fun h1 => k2 fun z => h1 z.1)
    refine ⟨_, rfl, sp, _, dxs, _, _, rfl, S.sp, W.C_Space, W.na_Space_store, rfl, ?_⟩
    refine ⟨st, dx, _, rfl, T.st, rfl, ?_⟩
    refine ⟨_, rfl, x, rfl, h1, ?_⟩
    refine ⟨st, dx, wl, pl, room, entries, least, flat O, kvs, x / 2, rfl, T, ?_⟩
    refine ⟨_, rfl, ?_⟩
    cases e : (valV kvs (.inl (x / 2))).isSome with
    | true =>
      refine iteT ?_
      exact ⟨_, rfl, x, rfl, h1, k1 h1 ((G.iff _).mp e)⟩
    | false =>
      refine iteF ?_
      exact k2 fun z => by rw [(G.iff _).mpr z.2] at e; cases e
/-- what a thing holds: its kind, its contents -/
def rowOf (o : Ob) : List Int := o.kind :: o.sl
def sp_rowof : Addr → Addr → Sp := fun CS C vs H Q _ => ∃ sp dxs st pr rt hd al co rs hs dx wl pl room entries least O kvs, ∃ (i : Nat) (o : Ob), vs = [.ref sp, .int o.num] ∧ SpaceAt H CS sp dxs st pr rt hd al co rs hs ∧ StoreAt H C st dx wl pl room entries least (flat O) kvs ∧ Good O kvs least ∧ O[i]? = some o ∧ o.live = true ∧ o.sl.length ≤ 1000 ∧
  ∀ q H', H q = none → H' q = some (.lst ((rowOf o).map V.int)) → Fr [] H H' → Q (.ref q) H'
theorem ok_row_of (W : WT P K mg base) : FnOk P w K mg base CX0 3 W.f_row_of W.fd_row_of ["space", "number"] (sp_rowof W.c_Space W.c_Store) := by
  refine W.F_row_of.ok sc_row_of (fun vs H Q E h => ?_) (fun cdv A outer s H vs Q E hr h => ?_)
  · obtain ⟨sp, dxs, st, pr, rt, hd, al, co, rs, hs, dx, wl, pl, room, entries, least, O, kvs, i, o, rfl, _⟩ := h
    rfl
  · obtain ⟨sp, dxs, st, pr, rt, hd, al, co, rs, hs, dx, wl, pl, room, entries, least, O, kvs, i, o, rfl, S, T, G, ho, hl, hz, k⟩ := h
    have hu1 := hu_of hr
    have hu64 := hu64_of hr
    have hlt := off_lt ho
    refine ⟨_, (pss_one (ps_ret (pe_op op_addU (pe_lst (pa_cons (pe_meth (pe_fld (pv 0) rfl) W.C_Store W.m_Store_kind (ok_Store_kind W) (hr.mono (by decide)) W.b_Store_kind .nil pass0 (pa_cons (pv 1) pa_nil)) pa_nil)) (pe_meth (pe_fld (pv 0) rfl) W.C_Store W.m_Store_slots (ok_Store_slots W) (hr.mono (by decide)) W.b_Store_slots .nil pass0 (pa_cons (pv 1) pa_nil))))), ?_⟩
    refine ⟨_, rfl, sp, _, dxs, _, _, rfl, S.sp, W.C_Space, W.na_Space_store, rfl, ?_⟩
    refine ⟨st, dx, _, rfl, T.st, rfl, ?_⟩
    refine ⟨_, rfl, ?_⟩
    refine ⟨st, dx, wl, pl, room, entries, least, flat O, kvs, o.num, off O i, o.kind, rfl, T, G.at ho hl, flat_kind ho, ?_⟩
    refine ⟨(by show 1 ≤ sizeLine; decide), fun q1 hq1 => ?_⟩
    have f1 : Fr [] H (upd H q1 (.lst [.int o.kind])) := Fr.new hq1
    have e1 : upd H q1 (.lst [.int o.kind]) q1 = some (.lst [.int o.kind]) := upd_same
    generalize upd H q1 (.lst [.int o.kind]) = H1 at f1 e1
    have S1 := S.keep f1 (by simp)
    have T1 := T.keep f1 (by simp)
    refine ⟨_, rfl, sp, _, dxs, _, _, rfl, S1.sp, W.C_Space, W.na_Space_store, rfl, ?_⟩
    refine ⟨st, dx, _, rfl, T1.st, rfl, ?_⟩
    refine ⟨_, rfl, ?_⟩
    refine ⟨st, dx, wl, pl, room, entries, least, flat O, kvs, o.num, off O i, o.sl.length, rfl, T1, G.at ho hl, flat_size ho, by omega, fun q2 hq2 => ?_⟩
    rw [flat_slots ho]
    have f2 : Fr [] H1 (upd H1 q2 (.lst (o.sl.map V.int))) := Fr.new hq2
    have e2 : upd H1 q2 (.lst (o.sl.map V.int)) q2 = some (.lst (o.sl.map V.int)) := upd_same
    generalize upd H1 q2 (.lst (o.sl.map V.int)) = H2 at f2 e2
    refine Or.inl ⟨q1, q2, _, _, rfl, rfl, f2 _ _ e1 (by simp), e2, (by rw [List.length_map, sizeLine_eq]; show 1 + o.sl.length ≤ _; omega), fun q3 hq3 => ?_⟩
    have f12 := f1.trans f2
    refine k q3 _ ?_ upd_same (f12.trans (Fr.new hq3))
    cases e : H q3 with
    | none => rfl
    | some u => rw [f12 _ _ e (by simp)] at hq3; cases hq3
end

end LX
namespace LX
open PySem PySem.Spec PyProof.Rows L2 NdefX
section
variable {P : Program} {w : World} {K : PySem.W.Frag} {mg : Str → Option Value} {base : Heap}
/-- the space's own places stand apart from the store's -/
structure ApartS (sp st pr rt hd wl : Addr) : Prop where
  a : sp ≠ st
  p : pr ≠ wl
  r : rt ≠ wl
  h : hd ≠ wl
  b : pr ≠ rt
  c : pr ≠ hd
  d : rt ≠ hd
theorem SpaceAt.store {H H' : Hp} {CS C sp dxs st pr rt hd dx wl pl : Addr} {al co room entries least : Int} {rs hs ws : List Int} {kvs : List (Key × V)} (S : SpaceAt H CS sp dxs st pr rt hd al co rs hs) (T : StoreAt H C st dx wl pl room entries least ws kvs) (N : ApartS sp st pr rt hd wl) (f : Fr [st, wl, pl] H H') : SpaceAt H' CS sp dxs st pr rt hd al co rs hs := by
  refine S.keep f (fun b hb => ?_)
  have l1 : ∀ b xs, H b = some (.lst xs) → b ≠ wl → b ∉ [st, wl, pl] := fun b xs e n => by
    have := ne_of e T.st (by intro z; cases z)
    have := ne_of e T.pl (by intro z; cases z)
    simp_all
  simp only [List.mem_cons, List.not_mem_nil, or_false] at hb
  rcases hb with e | e | e | e
  · rw [e]
    have := ne_of S.sp T.wl (by intro z; cases z)
    have := ne_of S.sp T.pl (by intro z; cases z)
    have := N.a
    simp_all
  · rw [e]; exact l1 _ _ S.pr N.p
  · rw [e]; exact l1 _ _ S.rt N.r
  · rw [e]; exact l1 _ _ S.hd N.h
def sp_snew : Addr → Addr → Sp := fun CS C vs H Q _ => ∃ sp dxs st pr rt hd al co rs hs dx wl pl room entries least ws kvs, ∃ (x : Int) (z : Nat), vs = [.ref sp, .int x, .int (z : Int)] ∧ SpaceAt H CS sp dxs st pr rt hd al co rs hs ∧ StoreAt H C st dx wl pl room entries least ws kvs ∧ ApartS sp st pr rt hd wl ∧ Seen kvs least ∧ (kvs.length : Int) < entries ∧ entries ≤ 100000 ∧ (ws.length : Int) + 3 + z ≤ room ∧ room ≤ 100000 ∧
  ∀ m H', SpaceAt H' CS sp dxs st pr rt hd al co rs hs → StoreAt H' C st dx wl pl room entries m (ws ++ (m :: (z : Int) :: x :: List.replicate z 0)) (putK kvs (.inl m) (.int (ws.length : Int))) → Fr [st, wl, pl] H H' → Seen kvs m → valV kvs (.inl m) = none → Q (.int m) H'
theorem ok_Space_fitted (W : WT P K mg base) : FnOk P w K mg base CX0 6 W.f_Space_fitted W.fd_Space_fitted ["self", "kind", "size"] (sp_snew W.c_Space W.c_Store) := by
  refine W.F_Space_fitted.ok sc_Space_fitted (fun vs H Q E h => ?_) (fun cdv A outer s H vs Q E hr h => ?_)
  · obtain ⟨sp, dxs, st, pr, rt, hd, al, co, rs, hs, dx, wl, pl, room, entries, least, ws, kvs, x, z, rfl, _⟩ := h
    rfl
  · obtain ⟨sp, dxs, st, pr, rt, hd, al, co, rs, hs, dx, wl, pl, room, entries, least, ws, kvs, x, z, rfl, S, T, N, h1, h2, h3, h4, h5, k⟩ := h
    have hu1 := hu_of hr
    have hu64 := hu64_of hr
    refine ⟨_, (pss_cons (ps_try_thru0 (pss_one (ps_ret (pe_meth (pe_fld (pv 0) rfl) W.C_Store W.m_Store_allocate (ok_Store_allocate W) (hr.mono (by decide)) W.b_Store_allocate .nil pass0 (pa_cons (pv 1) (pa_cons (pv 2) pa_nil))))))
      (pss_one (ps_ret (pe_meth (pe_fld (pv 0) rfl) W.C_Store W.m_Store_allocate (ok_Store_allocate W) (hr.mono (by decide)) W.b_Store_allocate .nil pass0 (pa_cons (pv 1) (pa_cons (pv 2) pa_nil)))))), ?_⟩
    refine ⟨_, rfl, sp, _, dxs, _, _, rfl, S.sp, W.C_Space, W.na_Space_store, rfl, ?_⟩
    refine ⟨st, dx, _, rfl, T.st, rfl, ?_⟩
    refine ⟨_, rfl, _, rfl, ?_⟩
    exact ⟨st, dx, wl, pl, room, entries, least, ws, kvs, x, z, rfl, T, h1, h2, h3, h4, h5, fun m H' T' f hs hm => k m H' (S.store T N f) T' f hs hm⟩
def sp_snew2 : Addr → Addr → Sp := fun CS C vs H Q _ => ∃ sp dxs st pr rt hd al co rs hs dx wl pl room entries least ws kvs, ∃ (x : Int) (z : Nat), vs = [.ref sp, .int x, .int (z : Int)] ∧ SpaceAt H CS sp dxs st pr rt hd al co rs hs ∧ StoreAt H C st dx wl pl room entries least ws kvs ∧ ApartS sp st pr rt hd wl ∧ Seen kvs least ∧ (kvs.length : Int) < entries ∧ entries ≤ 100000 ∧ (ws.length : Int) + 3 + z ≤ room ∧ room ≤ 100000 ∧
  ∀ m H', SpaceAt H' CS sp dxs st pr rt hd (al + 1) co rs hs → StoreAt H' C st dx wl pl room entries m (ws ++ (m :: (z : Int) :: x :: List.replicate z 0)) (putK kvs (.inl m) (.int (ws.length : Int))) → Fr [sp, st, wl, pl] H H' → Seen kvs m → valV kvs (.inl m) = none → Q (.int m) H'
theorem SpaceAt.counts {H : Hp} {CS C sp dxs st pr rt hd dx wl pl : Addr} {al co al' co' room entries least : Int} {rs hs ws : List Int} {kvs : List (Key × V)} (S : SpaceAt H CS sp dxs st pr rt hd al co rs hs) (T : StoreAt H C st dx wl pl room entries least ws kvs) (N : ApartS sp st pr rt hd wl) :
    SpaceAt (upd H sp (.ins CS dxs (pF st pr rt hd al' co'))) CS sp dxs st pr rt hd al' co' rs hs ∧ StoreAt (upd H sp (.ins CS dxs (pF st pr rt hd al' co'))) C st dx wl pl room entries least ws kvs := by
  have f : Fr [sp] H (upd H sp (.ins CS dxs (pF st pr rt hd al' co'))) := Fr.at (by simp)
  have i1 := ne_of S.pr S.sp (by intro z; cases z)
  have i2 := ne_of S.rt S.sp (by intro z; cases z)
  have i3 := ne_of S.hd S.sp (by intro z; cases z)
  have i4 := ne_of T.wl S.sp (by intro z; cases z)
  have i5 := ne_of T.pl S.sp (by intro z; cases z)
  have := N.a
  refine ⟨⟨upd_same, f _ _ S.pr (by simpa using i1), f _ _ S.rt (by simpa using i2), f _ _ S.hd (by simpa using i3)⟩, T.keep f (fun b hb => ?_)⟩
  simp only [List.mem_cons, List.not_mem_nil, or_false] at hb ⊢
  rcases hb with e | e | e
  · rw [e]; exact this.symm
  · rw [e]; exact i4
  · rw [e]; exact i5
theorem SpaceAt.storeN {H H' : Hp} {CS C sp dxs st pr rt hd dx wl pl : Addr} {al co room entries least : Int} {rs hs ws : List Int} {kvs : List (Key × V)} (S : SpaceAt H CS sp dxs st pr rt hd al co rs hs) (T : StoreAt H C st dx wl pl room entries least ws kvs) (N : ApartS sp st pr rt hd wl) (f : FrN [st, wl, pl] H H') : SpaceAt H' CS sp dxs st pr rt hd al co rs hs := by
  have l1 : ∀ b xs, H b = some (.lst xs) → b ≠ wl → b ∉ [st, wl, pl] := fun b xs e n => by
    have := ne_of e T.st (by intro z; cases z)
    have := ne_of e T.pl (by intro z; cases z)
    simp_all
  have := ne_of S.sp T.wl (by intro z; cases z)
  have := ne_of S.sp T.pl (by intro z; cases z)
  have := N.a
  exact ⟨f _ _ S.sp (by simp_all) (by intro ps z; cases z), f.lst S.pr (l1 _ _ S.pr N.p), f.lst S.rt (l1 _ _ S.rt N.r), f.lst S.hd (l1 _ _ S.hd N.h)⟩
def sp_cwith (CS C PT : Addr) : Sp := fun vs H Q _ => ∃ sp dxs st pr rt hd al co rs hs dx wl pl room entries least O kvs, ∃ x : Int, vs = [.ref sp, .int x] ∧ SpaceAt H CS sp dxs st pr rt hd al co rs hs ∧ StoreAt H C st dx wl pl room entries least (flat O) kvs ∧ ApartS sp st pr rt hd wl ∧ Good O kvs least ∧ (∀ o ∈ O, o.sl.length ≤ 99) ∧ (∀ o ∈ O, 0 ≤ o.num) ∧ O.length ≤ 900 ∧ rs.length ≤ 20 ∧ hs.length ≤ 20 ∧ LamX.TabS H PT qLam ∧
  ∀ F H' wl' pl' least', F.Nodup → (∀ n, n ∈ F ↔ Reach O ((0 :: (rs ++ hs)) ++ [x]) n) → SpaceAt H' CS sp dxs st pr rt hd al (co + 1) rs hs → StoreAt H' C st dx wl' pl' room entries least' (flat (kept O F)) (pD (tbl (kept O F))) → Good (kept O F) (pD (tbl (kept O F))) least' → LamX.TabS H' PT qLam → FrN [sp, st, wl, pl] H H' → H wl' = none → H pl' = none → Q (.int (((O.filter (·.live)).length : Int) - (F.length : Int))) H'
theorem ok_Space_collect_with (W : WT P K mg base) : FnOk P w K mg base CX0 5 W.f_Space_collect_with W.fd_Space_collect_with ["self", "word"] (sp_cwith W.c_Space W.c_Store W.PT_Store_close_up) := by
  refine W.F_Space_collect_with.ok sc_Space_collect_with (fun vs H Q E h => ?_) (fun cdv A outer s H vs Q E hr h => ?_)
  · obtain ⟨sp, dxs, st, pr, rt, hd, al, co, rs, hs, dx, wl, pl, room, entries, least, O, kvs, x, rfl, _⟩ := h
    rfl
  · obtain ⟨sp, dxs, st, pr, rt, hd, al, co, rs, hs, dx, wl, pl, room, entries, least, O, kvs, x, rfl, S, T, N, G, sz, nn, len, h1, h2, tab, k⟩ := h
    have hu1 := hu_of hr
    have hu64 := hu64_of hr
    refine ⟨_, (pss_cons (ps_fld (pv 0) (pe_op op_addU (pe_fld (pv 0) rfl) pe_int) rfl)
      (pss_one (ps_ret (pe_call (ok_collect W) (hr.mono (by decide)) rfl W.g_collect_collecting W.F_collect.kp W.b_collect .nil pass0 (pa_cons (pe_fld (pv 0) rfl) (pa_cons (pe_op op_addU (pe_meth0 (pv 0) W.C_Space W.m_Space_all_roots (ok_Space_all_roots W) (hr.mono (by decide)) W.b_Space_all_roots .nil pass0 ) (pe_lst (pa_cons (pv 1) pa_nil))) pa_nil)))))), ?_⟩
    refine ⟨_, rfl, sp, _, dxs, _, _, rfl, S.sp, W.C_Space, W.na_Space_collections, rfl, ?_⟩
    refine ⟨_, rfl, sp, _, dxs, _, rfl, S.sp, W.C_Space, W.na_Space_collections, (by show 8 < 1000; decide), ?_⟩
    obtain ⟨S1, T1⟩ := S.counts (al' := al) (co' := co + 1) T N
    have f1 : Fr [sp] H (upd H sp (.ins W.c_Space dxs (pF st pr rt hd al (co + 1)))) := Fr.at (by simp)
    rw [show putF "collections" (V.int (co + 1)) (pF st pr rt hd al co) = pF st pr rt hd al (co + 1) from rfl]
    have tab1 := tab_out tab f1 (fun b hb => by
      have e : b = sp := by simpa using hb
      rw [e]
      exact ⟨_, S.sp, (by intro ps z; cases z), (by intro ps z; cases z)⟩)
    generalize upd H sp (.ins W.c_Space dxs (pF st pr rt hd al (co + 1))) = H1 at S1 T1 f1 tab1
    refine ⟨_, rfl, sp, _, dxs, _, _, rfl, S1.sp, W.C_Space, W.na_Space_store, rfl, ?_⟩
    refine ⟨_, rfl, sp, dxs, _, rfl, S1.sp, rfl, ?_⟩
    refine ⟨sp, dxs, st, pr, rt, hd, al, co + 1, rs, hs, rfl, S1, by omega, by omega, fun l H2 hl hl0 f2 => ?_⟩
    refine ⟨_, rfl, (by show 1 ≤ sizeLine; decide), fun q hq => ?_⟩
    have f3 : Fr [] H2 (upd H2 q (.lst [.int x])) := Fr.new hq
    have q3 : upd H2 q (.lst [.int x]) q = some (.lst [.int x]) := upd_same
    generalize upd H2 q (.lst [.int x]) = H3 at f3 q3
    refine Or.inl ⟨l, q, _, _, rfl, rfl, f3 _ _ hl (by simp), q3, (by rw [List.length_map, sizeLine_eq, List.length_cons, List.length_append]; show rs.length + hs.length + 1 + 1 ≤ _; omega), fun ra hra => ?_⟩
    have e3 : (0 :: (rs ++ hs)).map V.int ++ [V.int x] = ((0 :: (rs ++ hs)) ++ [x]).map V.int := by rw [List.map_append]; rfl
    rw [e3]
    have f4 : Fr [] H3 (upd H3 ra (.lst (((0 :: (rs ++ hs)) ++ [x]).map V.int))) := Fr.new hra
    have r4 : upd H3 ra (.lst (((0 :: (rs ++ hs)) ++ [x]).map V.int)) ra = some (.lst (((0 :: (rs ++ hs)) ++ [x]).map V.int)) := upd_same
    generalize upd H3 ra (.lst (((0 :: (rs ++ hs)) ++ [x]).map V.int)) = H4 at f4 r4
    have f24 := (f2.trans f3).trans f4
    have T4 := T1.keep f24 (by simp)
    have S4 := S1.keep f24 (by simp)
    refine ⟨st, dx, wl, pl, room, entries, least, O, kvs, ra, _, rfl, T4, G, sz, nn, len, r4, (by rw [List.length_append, List.length_cons, List.length_append]; show rs.length + hs.length + 1 + 1 ≤ _; omega), tab1.ext (fun b o e => f24 b o e (by simp)), fun F H' wl' pl' least' nd hF T5 G5 tab5 f5 w5 p5 => ?_⟩
    have f15 : FrN [sp, st, wl, pl] H H' := (((f1.mono (by simp)).trans (f24.mono (by simp))).n).trans (f5.mono (by simp))
    have none1 : ∀ b, H4 b = none → H b = none := fun b hb => by
      cases e : H b with
      | none => rfl
      | some o =>
        exfalso
        by_cases hs : b = sp
        · rw [hs, S4.sp] at hb; cases hb
        · rw [f24 _ _ (f1 _ _ e (by simpa using hs)) (by simp)] at hb; cases hb
    exact k F H' wl' pl' least' nd hF (S4.storeN T4 N f5) T5 G5 tab5 f15 (none1 _ w5) (none1 _ p5)
theorem ok_Space_new (W : WT P K mg base) : FnOk P w K mg base CX0 7 W.f_Space_new W.fd_Space_new ["self", "kind", "size"] (sp_snew2 W.c_Space W.c_Store) := by
  refine W.F_Space_new.ok sc_Space_new (fun vs H Q E h => ?_) (fun cdv A outer s H vs Q E hr h => ?_)
  · obtain ⟨sp, dxs, st, pr, rt, hd, al, co, rs, hs, dx, wl, pl, room, entries, least, ws, kvs, x, z, rfl, _⟩ := h
    rfl
  · obtain ⟨sp, dxs, st, pr, rt, hd, al, co, rs, hs, dx, wl, pl, room, entries, least, ws, kvs, x, z, rfl, S, T, N, h1, h2, h3, h4, h5, k⟩ := h
    have hu1 := hu_of hr
    have hu64 := hu64_of hr
    refine ⟨_, (pss_cons (ps_fld (pv 0) (pe_op op_addU (pe_fld (pv 0) rfl) pe_int) rfl)
      (pss_cons (ps_if (pt_cmpR op_isnotU (pe_fld (pv 0) rfl) pe_non (by first | exact nomark _ | rfl)) (pss_one (ps_ret (pe_meth (pe_fld (pv 0) rfl) W.C_Store W.m_Store_allocate (ok_Store_allocate W) (hr.mono (by decide)) W.b_Store_allocate .nil pass0 (pa_cons (pv 1) (pa_cons (pv 2) pa_nil))))) pss_nil)
      (pss_cons (ps_if (PW.pt (pw_or (pt_truth (pe_fld (pv 0) rfl) (by intro _; rfl)) (pw_or1 (pt_cmpR (op_inU hu1) (pe_fld (pv 0) rfl) (pe_fld (pv 0) rfl) (by first | exact nomark _ | rfl))))) (pss_one (ps_expr (pe_meth (pv 0) W.C_Space W.m_Space_collect_with (ok_Space_collect_with W) (hr.mono (by decide)) W.b_Space_collect_with .nil pass0 (pa_cons (pv 1) pa_nil)))) pss_nil)
      (pss_one (ps_ret (pe_meth (pv 0) W.C_Space W.m_Space_fitted (ok_Space_fitted W) (hr.mono (by decide)) W.b_Space_fitted .nil pass0 (pa_cons (pv 1) (pa_cons (pv 2) pa_nil)))))))), ?_⟩
    refine ⟨_, rfl, sp, _, dxs, _, _, rfl, S.sp, W.C_Space, W.na_Space_allocations, rfl, ?_⟩
    refine ⟨_, rfl, sp, _, dxs, _, rfl, S.sp, W.C_Space, W.na_Space_allocations, (by show 8 < 1000; decide), ?_⟩
    obtain ⟨S1, T1⟩ := S.counts (al' := al + 1) (co' := co) T N
    have f1 : Fr [sp] H (upd H sp (.ins W.c_Space dxs (pF st pr rt hd (al + 1) co))) := Fr.at (by simp)
    rw [show putF "allocations" (V.int (al + 1)) (pF st pr rt hd al co) = pF st pr rt hd (al + 1) co from rfl]
    generalize upd H sp (.ins W.c_Space dxs (pF st pr rt hd (al + 1) co)) = H1 at S1 T1 f1
    refine ⟨_, rfl, sp, _, dxs, _, _, rfl, S1.sp, W.C_Space, W.na_Space__saved, rfl, ?_⟩
    refine ⟨_, rfl, ?_⟩
    refine iteND (fun h => absurd rfl h) (fun _ => ?_)
    refine ⟨_, rfl, sp, _, dxs, _, _, rfl, S1.sp, W.C_Space, W.na_Space_always, rfl, ?_⟩
    refine ⟨_, rfl, iteF ?_⟩
    refine ⟨_, rfl, sp, _, dxs, _, _, rfl, S1.sp, W.C_Space, W.na_Space_allocations, rfl, ?_⟩
    refine ⟨_, rfl, sp, _, dxs, _, _, rfl, S1.sp, W.C_Space, W.na_Space_pressure, rfl, ?_⟩
    refine Or.inl ⟨_, Or.inl (SqL.of S1.pr), rfl, rfl, ?_⟩
    refine ⟨_, rfl, iteF ?_⟩
    refine ⟨_, rfl, sp, dxs, _, rfl, S1.sp, rfl, ?_⟩
    refine ⟨_, rfl, _, rfl, ?_⟩
    exact ⟨sp, dxs, st, pr, rt, hd, al + 1, co, rs, hs, dx, wl, pl, room, entries, least, ws, kvs, x, z, rfl, S1, T1, N, h1, h2, h3, h4, h5, fun m H' S' T' f hs hm => k m H' S' T' ((f1.mono (by simp)).trans (f.mono (by simp))) hs hm⟩
def sp_coll (CS C PT : Addr) : Sp := fun vs H Q _ => ∃ sp dxs st pr rt hd al co rs hs dx wl pl room entries least O kvs, vs = [.ref sp] ∧ SpaceAt H CS sp dxs st pr rt hd al co rs hs ∧ StoreAt H C st dx wl pl room entries least (flat O) kvs ∧ ApartS sp st pr rt hd wl ∧ Good O kvs least ∧ (∀ o ∈ O, o.sl.length ≤ 99) ∧ (∀ o ∈ O, 0 ≤ o.num) ∧ O.length ≤ 900 ∧ rs.length ≤ 20 ∧ hs.length ≤ 20 ∧ LamX.TabS H PT qLam ∧
  ∀ F H' wl' pl' least', F.Nodup → (∀ n, n ∈ F ↔ Reach O ((0 :: (rs ++ hs)) ++ [0]) n) → SpaceAt H' CS sp dxs st pr rt hd al (co + 1) rs hs → StoreAt H' C st dx wl' pl' room entries least' (flat (kept O F)) (pD (tbl (kept O F))) → Good (kept O F) (pD (tbl (kept O F))) least' → LamX.TabS H' PT qLam → FrN [sp, st, wl, pl] H H' → H wl' = none → H pl' = none → Q (.int (((O.filter (·.live)).length : Int) - (F.length : Int))) H'
theorem ok_Space_collect (W : WT P K mg base) : FnOk P w K mg base CX0 6 W.f_Space_collect W.fd_Space_collect ["self"] (sp_coll W.c_Space W.c_Store W.PT_Store_close_up) := by
  refine W.F_Space_collect.ok sc_Space_collect (fun vs H Q E h => ?_) (fun cdv A outer s H vs Q E hr h => ?_)
  · obtain ⟨sp, dxs, st, pr, rt, hd, al, co, rs, hs, dx, wl, pl, room, entries, least, O, kvs, rfl, _⟩ := h
    rfl
  · obtain ⟨sp, dxs, st, pr, rt, hd, al, co, rs, hs, dx, wl, pl, room, entries, least, O, kvs, rfl, S, T, N, G, sz, nn, len, h1, h2, tab, k⟩ := h
    have hu1 := hu_of hr
    have hu64 := hu64_of hr
    refine ⟨_, (pss_cons (ps_if (pt_cmpR op_isnotU (pe_fld (pv 0) rfl) pe_non (by first | exact nomark _ | rfl)) (pss_one ps_never) pss_nil)
      (pss_one (ps_ret (pe_meth (pv 0) W.C_Space W.m_Space_collect_with (ok_Space_collect_with W) (hr.mono (by decide)) W.b_Space_collect_with .nil pass0 (pa_cons (pe_gi rfl W.g_NIL) pa_nil))))), ?_⟩
    refine ⟨_, rfl, sp, _, dxs, _, _, rfl, S.sp, W.C_Space, W.na_Space__saved, rfl, ?_⟩
    refine ⟨_, rfl, ?_⟩
    refine iteND (fun h => absurd rfl h) (fun _ => ?_)
    refine ⟨_, rfl, sp, dxs, _, rfl, S.sp, rfl, ?_⟩
    exact ⟨sp, dxs, st, pr, rt, hd, al, co, rs, hs, dx, wl, pl, room, entries, least, O, kvs, 0, rfl, S, T, N, G, sz, nn, len, h1, h2, tab, k⟩
end

end LX
namespace LX
open PySem PySem.Spec PyProof.Rows L2 NdefX
set_option hygiene false in
local macro_rules | `(tactic| k_memK) => `(tactic| first | exact W.na_Store_room | exact W.na_Store_entries | exact W.na_Store_words | exact W.na_Store__places | exact W.na_Store__least | exact W.na_Space_store | exact W.na_Space_pressure | exact W.na_Space_always | exact W.na_Space_allocations | exact W.na_Space_collections | exact W.na_Space__roots | exact W.na_Space__held | exact W.na_Space__saved)
set_option hygiene false in
local macro_rules | `(tactic| k_ownIn) => `(tactic| first | exact W.C_Store | exact W.C_Space)
local macro_rules | `(tactic| none_booked) => `(tactic| first | assumption | (refine Fr.g0 (by assumption) ?_; none_booked))
local macro_rules | `(tactic| one_sign) => `(tactic| repeat (first
  | refine Stp.h ?_
  | ((with_reducible refine' z_fld1 ?k0 ?k1 ?k2 ?k3 ?_); (case k0 => none_booked); (case k1 => k_ownIn); (case k2 => k_memK); (case k3 => rfl))
  | ((with_reducible refine' z_meth1 ?k0 ?k1 ?_); (case k0 => none_booked); (case k1 => rfl))
  | ((with_reducible refine' z_bmL ?k0 ?_); (case k0 => none_booked))
  | ((with_reducible refine' z_lenL ?k0 ?_); (case k0 => none_booked))
  | ((with_reducible refine' z_lenT ?k0 ?_); (case k0 => none_booked))
  | ((with_reducible refine' z_lenD ?k0 ?_); (case k0 => none_booked))
  | ((with_reducible refine' z_truL ?k0 ?_); (case k0 => none_booked))
  | ((with_reducible refine' z_truD ?k0 ?_); (case k0 => none_booked))
  | ((with_reducible refine' z_truT ?k0 ?_); (case k0 => none_booked))
  | ((with_reducible refine' z_inDIP ?k0 ?_); (case k0 => none_booked))
  | ((with_reducible refine' z_inDIN ?k0 ?_); (case k0 => none_booked))
  | ((with_reducible refine' z_inDfP ?k0 ?_); (case k0 => none_booked))
  | ((with_reducible refine' z_inDfN ?k0 ?_); (case k0 => none_booked))
  | ((with_reducible refine' z_iList1 ?k0 ?_); (case k0 => none_booked))
  | ((with_reducible refine' z_isi0 ?k0 ?k1 ?k2 ?_); (case k0 => exact (ClsV.ty _)); (case k1 => exact (TyX.base (TyOf.lst (by none_booked)))); (case k2 => first | exact kt_list_int | exact kt_list_bool | exact kt_list_str | exact kt_list_list | exact kt_list_tuple | exact kt_list_dict))
  | ((with_reducible refine' z_rI ?k0 ?_); (case k0 => first | exact (by decide : (0 : Int) < _) | exact ⟨by decide, by decide⟩ | exact ⟨by decide, by decide, by decide⟩ | (show (0 : Int) < _; omega)))
  | ((with_reducible refine' z_mulI ?k0 ?_); (case k0 => first | exact Or.inr ⟨by decide, by decide⟩ | exact Or.inl ⟨by decide, by decide⟩ | exact Or.inl ⟨by omega, by omega⟩ | exact Or.inr ⟨by omega, by omega⟩))))
local macro_rules | `(tactic| leaf_len) => `(tactic| (simp only [wipe, List.map_cons, List.map_nil, List.set_cons_zero, List.set_cons_succ]; one_sign; refine z_ok rfl ?_; one_sign))
section
variable {P : Program} {w : World} {K : PySem.W.Frag} {mg : Str → Option Value} {base : Heap}
def sp_spinit (CS C : Addr) : Sp := fun vs H Q _ => ∃ sp dxs, ∃ room entries : Int, vs = [.ref sp, .int room, .int entries] ∧ H sp = some (.ins CS dxs []) ∧
  ∀ H' st dx wl pl pr rt hd, SpaceAt H' CS sp dxs st pr rt hd 0 0 (List.replicate 16 0) [] → StoreAt H' C st dx wl pl room entries 0 [] [] → ApartS sp st pr rt hd wl → (∀ b o, H b = some o → b ≠ sp → H' b = some o) → (∀ b, b ∈ [st, wl, pl, pr, rt, hd] → H b = none) → Q .non H'
theorem ok_Space___init__ (W : WT P K mg base) : FnOk P w K mg base CX0 3 W.f_Space___init__ W.fd_Space___init__ ["self", "room", "entries"] (sp_spinit W.c_Space W.c_Store) := by
  refine W.F_Space___init__.ok sc_Space___init__ (fun vs H Q E h => by obtain ⟨sp, dxs, room, entries, rfl, hsp, k⟩ := h; rfl) (fun cdv A outer s H vs Q E hr h => ?_)
  obtain ⟨sp, dxs, room, entries, rfl, hsp, k⟩ := h
  have hu1 := hu_of hr
  have hu64 := hu64_of hr
  refine ⟨_, (pss_cons (ps_fld (pv 0) (pe_make W.M_Store (ok_Store___init__ W) (hr.mono (by decide)) rfl W.g_Store W.b_Store___init__ .nil pass0 (pa_cons (pv 1) (pa_cons (pv 2) pa_nil))) rfl)
      (pss_cons (ps_fld (pv 0) (pe_lst pa_nil) rfl)
      (pss_cons (ps_fld (pv 0) pe_bl rfl)
      (pss_cons (ps_fld (pv 0) pe_int rfl)
      (pss_cons (ps_fld (pv 0) pe_int rfl)
      (pss_cons (ps_fld (pv 0) (pe_op op_mulU (pe_lst (pa_cons (pe_gi rfl W.g_NIL) pa_nil)) (pe_gi rfl W.g_ROOTS)) rfl)
      (pss_cons (ps_fld (pv 0) (pe_lst pa_nil) rfl)
      (pss_one (ps_fld (pv 0) pe_non rfl))))))))), ?_⟩
  refine z_start (σ := [some _, some _, some _]) rfl ?_
  one_sign
  intro st dx hst hdx ndx
  have hx0 : upd H dx (.own st) st = none := by rw [upd_ne ndx.symm]; exact hst
  have f0 : Fr [] H (upd (upd H dx (.own st)) st (.ins W.c_Store dx [])) := (Fr.new hdx).trans (Fr.new hx0)
  refine ⟨st, dx, room, entries, rfl, upd_same, fun H1 wl pl T1 f1 hwl hpl => ⟨rfl, ?_⟩⟩
  have fS : Fr [] H H1 := fun b o e _ => f1 b o (f0.g0 e) (ne_of_none e hst)
  have s1 := fS.g0 hsp
  have m1 := ne_of s1 T1.wl (by intro z; cases z)
  have m2 := ne_of s1 T1.pl (by intro z; cases z)
  have nss : sp ≠ st := ne_of_none hsp hst
  have hwl0 := f0.none hwl
  have hpl0 := f0.none hpl
  have sT : ∀ b ∈ [st, wl, pl], b ∉ [sp] := fun b hb h => by
    have h : b = sp := by simpa using h
    subst h
    simp only [List.mem_cons, List.not_mem_nil, or_false] at hb
    rcases hb with e | e | e
    · exact nss e
    · exact m1 e
    · exact m2 e
  clear f1
  one_sign
  refine z_flds1 s1 W.C_Space W.na_Space_store (by show 0 < 1000; decide) fun H2 g2 s2 n2 => ?_
  have T2 := T1.keep g2 sT
  one_sign
  refine z_newL (by show 0 ≤ sizeLine; decide) fun pr H3 hpr f3 p3 => ?_
  have nwp : wl ≠ pr := ne_of_none T2.wl hpr
  have npr : sp ≠ pr := ne_of_none s2 hpr
  have hpr0 : H pr = none := fS.none (g2.noneF hpr (by simpa using npr.symm))
  have g3 := g2.trans (f3.mono (by simp))
  one_sign
  refine z_flds1 (f3.g0 s2) W.C_Space W.na_Space_pressure (by show 1 < 1000; decide) fun H4 f4 s4 n4 => ?_
  one_sign
  refine z_flds1 s4 W.C_Space W.na_Space_always (by show 2 < 1000; decide) fun H5 f5 s5 n5 => ?_
  one_sign
  refine z_flds1 s5 W.C_Space W.na_Space_allocations (by show 3 < 1000; decide) fun H6 f6 s6 n6 => ?_
  one_sign
  refine z_flds1 s6 W.C_Space W.na_Space_collections (by show 4 < 1000; decide) fun H7 f7 s7 n7 => ?_
  have f47 := ((f4.trans f5).trans f6).trans f7
  have p7 := f47.g p3 (by simpa using npr.symm)
  have g7 := g3.trans f47
  clear f4 f5 f6 f7 s4 s5 s6 f47
  one_sign
  refine z_newL (by show 1 ≤ sizeLine; decide) fun q H8 hq f8 q8 => ?_
  one_sign
  refine z_rep 16 q8 rfl (by decide) (by show 1 * 16 ≤ sizeLine; rw [sizeLine_eq]; decide) fun rt H9 hrt f9 r9 => ?_
  have f89 := f8.trans f9
  have hrt7 := f8.none hrt
  have nsr : sp ≠ rt := ne_of_none s7 hrt7
  have npt : pr ≠ rt := ne_of_none p7 hrt7
  have nwt : wl ≠ rt := ne_of_none (T1.keep g7 sT).wl hrt7
  have hrt0 : H rt = none := fS.none (g7.noneF hrt7 (by simpa using nsr.symm))
  have g9 := g7.trans (f89.mono (by simp))
  have r9 : H9 rt = some (.lst ((List.replicate 16 (0 : Int)).map V.int)) := r9
  one_sign
  refine z_flds1 (f89.g0 s7) W.C_Space W.na_Space__roots (by show 5 < 1000; decide) fun H10 f10 s10 n10 => ?_
  one_sign
  refine z_newL (by show 0 ≤ sizeLine; decide) fun hd H11 hhd f11 h11 => ?_
  have p10 := f10.g (f89.g0 p7) (by simpa using npr.symm)
  have r10 := f10.g r9 (by simpa using nsr.symm)
  have g10 := g9.trans f10
  have n1 : sp ≠ hd := ne_of_none s10 hhd
  have n2 : pr ≠ hd := ne_of_none p10 hhd
  have n3 : rt ≠ hd := ne_of_none r10 hhd
  have n4 : wl ≠ hd := ne_of_none (T1.keep g10 sT).wl hhd
  have hhd0 : H hd = none := fS.none (g10.noneF hhd (by simpa using n1.symm))
  one_sign
  refine z_flds1 (f11.g0 s10) W.C_Space W.na_Space__held (by show 6 < 1000; decide) fun H12 f12 s12 n12 => ?_
  one_sign
  refine z_flds1 s12 W.C_Space W.na_Space__saved (by show 7 < 1000; decide) fun H13 f13 s13 n13 => ?_
  have f1113 := f12.trans f13
  have g13 := (g10.trans (f11.mono (by simp))).trans f1113
  refine k _ st dx wl pl pr rt hd ⟨s13, f1113.g (f11.g0 p10) (by simpa using npr.symm), f1113.g (f11.g0 r10) (by simpa using nsr.symm), f1113.g h11 (by simpa using n1.symm)⟩ (T1.keep g13 sT) ⟨nss, nwp.symm, nwt.symm, n4.symm, npt, n2, n3⟩ (fun b o e n => g13.g (fS.g0 e) (by simpa using n)) (fun b hb => ?_)
  simp only [List.mem_cons, List.not_mem_nil, or_false] at hb
  rcases hb with e | e | e | e | e | e <;> subst e <;> assumption
end

end LX
namespace LX
open PySem PySem.Spec PyProof.Rows L2 NdefX
set_option hygiene false in
local macro_rules | `(tactic| k_memK) => `(tactic| first | exact W.na_Store_room | exact W.na_Store_entries | exact W.na_Store_words | exact W.na_Store__places | exact W.na_Store__least | exact W.na_Space_store | exact W.na_Space_pressure | exact W.na_Space_always | exact W.na_Space_allocations | exact W.na_Space_collections | exact W.na_Space__roots | exact W.na_Space__held | exact W.na_Space__saved)
set_option hygiene false in
local macro_rules | `(tactic| k_ownIn) => `(tactic| first | exact W.C_Store | exact W.C_Space)
local macro_rules | `(tactic| none_booked) => `(tactic| first | assumption | (refine Fr.g0 (by assumption) ?_; none_booked))
local macro_rules | `(tactic| one_sign) => `(tactic| repeat (first
  | refine Stp.h ?_
  | ((with_reducible refine' z_fld1 ?k0 ?k1 ?k2 ?k3 ?_); (case k0 => none_booked); (case k1 => k_ownIn); (case k2 => k_memK); (case k3 => rfl))
  | ((with_reducible refine' z_meth1 ?k0 ?k1 ?_); (case k0 => none_booked); (case k1 => rfl))
  | ((with_reducible refine' z_bmL ?k0 ?_); (case k0 => none_booked))
  | ((with_reducible refine' z_lenL ?k0 ?_); (case k0 => none_booked))
  | ((with_reducible refine' z_lenT ?k0 ?_); (case k0 => none_booked))
  | ((with_reducible refine' z_lenD ?k0 ?_); (case k0 => none_booked))
  | ((with_reducible refine' z_truL ?k0 ?_); (case k0 => none_booked))
  | ((with_reducible refine' z_truD ?k0 ?_); (case k0 => none_booked))
  | ((with_reducible refine' z_truT ?k0 ?_); (case k0 => none_booked))
  | ((with_reducible refine' z_inDIP ?k0 ?_); (case k0 => none_booked))
  | ((with_reducible refine' z_inDIN ?k0 ?_); (case k0 => none_booked))
  | ((with_reducible refine' z_inDfP ?k0 ?_); (case k0 => none_booked))
  | ((with_reducible refine' z_inDfN ?k0 ?_); (case k0 => none_booked))
  | ((with_reducible refine' z_iList1 ?k0 ?_); (case k0 => none_booked))
  | ((with_reducible refine' z_isi0 ?k0 ?k1 ?k2 ?_); (case k0 => exact (ClsV.ty _)); (case k1 => exact (TyX.base (TyOf.lst (by none_booked)))); (case k2 => first | exact kt_list_int | exact kt_list_bool | exact kt_list_str | exact kt_list_list | exact kt_list_tuple | exact kt_list_dict))
  | ((with_reducible refine' z_rI ?k0 ?_); (case k0 => first | exact (by decide : (0 : Int) < _) | exact ⟨by decide, by decide⟩ | exact ⟨by decide, by decide, by decide⟩ | (show (0 : Int) < _; omega)))
  | ((with_reducible refine' z_mulI ?k0 ?_); (case k0 => first | exact Or.inr ⟨by decide, by decide⟩ | exact Or.inl ⟨by decide, by decide⟩ | exact Or.inl ⟨by omega, by omega⟩ | exact Or.inr ⟨by omega, by omega⟩))))
local macro_rules | `(tactic| leaf_len) => `(tactic| (simp only [wipe, List.map_cons, List.map_nil, List.set_cons_zero, List.set_cons_succ]; one_sign; refine z_ok rfl ?_; one_sign))
section
variable {P : Program} {w : World} {K : PySem.W.Frag} {mg : Str → Option Value} {base : Heap}
def sp_word : Sp := fun vs H Q _ => ∃ x m : Int, vs = [.int x, .int m] ∧ 0 ≤ m ∧ m ≤ 100000 ∧ ∀ (r : Int) H', Fr [] H H' → Q (.int r) H'
theorem ok__law_word (W : WT P K mg base) : FnOk P w K mg base CX0 1 W.f__law_word W.fd__law_word ["_law_x", "_law_many"] sp_word := by
  refine W.F__law_word.ok sc__law_word (fun vs H Q E h => by obtain ⟨x, m, rfl, hm, hm2, k⟩ := h; rfl) (fun cdv A outer s H vs Q E hr h => ?_)
  obtain ⟨x, m, rfl, hm, hm2, k⟩ := h
  have hu1 := hu_of hr
  have hu64 := hu64_of hr
  refine ⟨_, (pss_cons (ps_set (i := 2) sc__law_word.nd rfl (by first | exact Or.inl rfl | exact Or.inr rfl) (pe_op op_fdivW (pv 0) pe_int))
      (pss_cons (ps_if (pt_cmpR (op_eqU hu64) (pe_op op_mod (pe_callTy call_intU (by rfl) W.n_int bb_int (pa_cons (pv 0) pa_nil)) pe_int) pe_int (by first | exact nomark _ | rfl)) (pss_one (ps_ret (pe_op op_addU (pe_op op_mulU pe_int (pe_op op_sub (pe_op op_mod (pe_callTy call_intU (by rfl) W.n_int bb_int (pa_cons (pe_op op_mulU (pv 2) pe_int) pa_nil)) pe_int) pe_int)) pe_int))) pss_nil)
      (pss_cons (ps_if (pt_cmpR (op_eqU hu64) (pe_op op_mod (pe_callTy call_intU (by rfl) W.n_int bb_int (pa_cons (pv 0) pa_nil)) pe_int) pe_int (by first | exact nomark _ | rfl)) (pss_one (ps_ret (pe_op op_addU (pe_op op_mulU pe_int (pe_op op_mod (pe_callTy call_intU (by rfl) W.n_int bb_int (pa_cons (pe_op op_mulU (pv 2) pe_int) pa_nil)) pe_int)) pe_int))) pss_nil)
      (pss_cons (ps_if (pt_cmpR (op_eqU hu64) (pe_op op_mod (pe_callTy call_intU (by rfl) W.n_int bb_int (pa_cons (pv 0) pa_nil)) pe_int) pe_int (by first | exact nomark _ | rfl)) (pss_one (ps_ret pe_int)) pss_nil)
      (pss_cons (ps_if (pt_cmpR (op_eqU hu64) (pe_op op_mod (pe_callTy call_intU (by rfl) W.n_int bb_int (pa_cons (pv 2) pa_nil)) pe_int) pe_int (by first | exact nomark _ | rfl)) (pss_one (ps_ret (pe_op op_mulU pe_int (pe_op op_addU (pv 1) (pe_ix (ix_U hu1) (pe_lst (pa_cons pe_int (pa_cons pe_int (pa_cons (pe_op op_sub pe_int (pv 1)) pa_nil)))) (pe_op op_mod (pe_op op_fdivW (pv 2) pe_int) pe_int) (fun _ _ => rfl)))))) pss_nil)
      (pss_one (ps_ret (pe_op op_mulU pe_int (pe_op op_mod (pe_callTy call_intU (by rfl) W.n_int bb_int (pa_cons (pv 2) pa_nil)) (pe_op op_addU (pv 1) pe_int)))))))))), ?_⟩
  refine z_start (σ := [some _, some _, none]) rfl ?_
  one_sign
  refine iteD (fun h => ?_) (fun h => ?_)
  · one_sign
    exact k _ _ Fr.rfl'
  one_sign
  refine iteD (fun h => ?_) (fun h => ?_)
  · one_sign
    exact k _ _ Fr.rfl'
  one_sign
  refine iteD (fun h => ?_) (fun h => ?_)
  · one_sign
    exact k _ _ Fr.rfl'
  one_sign
  refine iteD (fun h => ?_) (fun h => ?_)
  · one_sign
    refine z_newL (by show 3 ≤ sizeLine; decide) fun q H1 hq f1 q1 => ?_
    one_sign
    have e1 := Int.emod_nonneg (x / 8 / 16) (by decide : (3 : Int) ≠ 0)
    have e2 := Int.emod_lt_of_pos (x / 8 / 16) (by decide : (0 : Int) < 3)
    obtain ⟨j, hj, hj3⟩ : ∃ j : Nat, x / 8 / 16 % 3 = (j : Int) ∧ j < 3 := ⟨(x / 8 / 16 % 3).toNat, by omega, by omega⟩
    obtain ⟨v, hv⟩ : ∃ v : Int, [V.int 0, .int 1, .int (99999 - m)][j]? = some (.int v) := by
      match j, hj3 with
      | 0, _ => exact ⟨_, rfl⟩
      | 1, _ => exact ⟨_, rfl⟩
      | 2, _ => exact ⟨_, rfl⟩
    refine z_ixL q1 (by show atI _ (x / 8 / 16 % 3) = _; rw [hj]; exact atI_nat hv) ?_
    one_sign
    exact k _ _ f1
  · one_sign
    exact k _ _ Fr.rfl'
end

end LX
namespace LX
open PySem PySem.Spec PyProof.Rows L2 NdefX
section
variable {P : Program} {w : World} {K : PySem.W.Frag} {mg : Str → Option Value} {base : Heap}
def natZ (l : List Nat) : List V := l.map fun z : Nat => V.int (z : Int)
theorem natZ_set (l : List Nat) (i c : Nat) : (natZ l).set i (.int (c : Int)) = natZ (l.set i c) := by unfold natZ; rw [List.map_set]
theorem all_set {l : List Nat} {i c b : Nat} (h : ∀ z ∈ l, z ≤ b) (hc : c ≤ b) : ∀ z ∈ l.set i c, z ≤ b := fun z hz => by
  rcases List.mem_or_eq_of_mem_set hz with hz | rfl
  · exact h z hz
  · exact hc
def sp_sizes : Sp := fun vs H Q _ => ∃ x : Int, vs = [.int x] ∧ ∀ q (zs : List Nat) H', zs.length ≤ 29 → (∀ z ∈ zs, z ≤ 69) → H' q = some (.lst (natZ zs)) → H q = none → Fr [] H H' → Q (.ref q) H'
theorem ok__law_sizes (W : WT P K mg base) : FnOk P w K mg base CX0 2 W.f__law_sizes W.fd__law_sizes ["_law_x"] sp_sizes := by
  refine W.F__law_sizes.ok sc__law_sizes (fun vs H Q E h => ?_) (fun cdv A outer s H vs Q E hr h => ?_)
  · obtain ⟨n, rfl, _⟩ := h
    rfl
  · obtain ⟨x, rfl, k⟩ := h
    have hu1 := hu_of hr
    have hu64 := hu64_of hr
    refine ⟨_, (pss_cons (ps_set (i := 1) sc__law_sizes.nd rfl (by first | exact Or.inl rfl | exact Or.inr rfl) (pe_op op_mod (pe_callTy call_intU (by rfl) W.n_int bb_int (pa_cons (pv 0) pa_nil)) pe_int))
      (Evl.pss_cut (ps_if (pt_cmpR (op_eqU hu64) (pe_op op_mod (pe_op op_fdivW (pv 0) pe_int) pe_int) pe_int (by first | exact nomark _ | rfl)) (pss_one (ps_set (i := 1) sc__law_sizes.nd rfl (by first | exact Or.inl rfl | exact Or.inr rfl) (pe_op op_mod (pe_op op_fdivW (pv 0) pe_int) pe_int))) pss_nil)
      (pss_cons (ps_set (i := 2) sc__law_sizes.nd rfl (by first | exact Or.inl rfl | exact Or.inr rfl) (pe_op op_fdivW (pv 0) pe_int))
      (pss_cons (ps_set (i := 3) sc__law_sizes.nd rfl (by first | exact Or.inl rfl | exact Or.inr rfl) (pe_lst pa_nil))
      (pss_cons (ps_for PassesOwn.never rfl (pi_range1 (by rfl) W.n_range (pa_cons (pv 1) pa_nil)) (pg_name (i := 4) sc__law_sizes.nd rfl (by first | exact Or.inl rfl | exact Or.inr rfl)) (pss_cons (ps_set (i := 5) sc__law_sizes.nd rfl (by first | exact Or.inl rfl | exact Or.inr rfl) (pe_call (ok__law_number W) (hr.mono (by decide)) rfl W.g__law_number W.F__law_number.kp W.b__law_number .nil pass0 (pa_cons (pe_op op_addU (pv 2) (pv 4)) (pa_cons (pe_op op_addU (pv 4) pe_int) pa_nil))))
      (pss_cons (ps_set (i := 2) sc__law_sizes.nd rfl (by first | exact Or.inl rfl | exact Or.inr rfl) (pe_op op_fdivW (pv 2) pe_int))
      (pss_cons (ps_expr (pe_bm PySem.F.plainAttrs_list PySem.F.slot_list_append PySem.F.type_list_append mt_append (pv 3) (pa_cons (pe_op op_mod (pe_callTy call_intU (by rfl) W.n_int bb_int (pa_cons (pv 5) pa_nil)) pe_int) pa_nil)))
      (Evl.pss_cut (ps_if (pt_cmpR (op_eqU hu64) (pe_op op_mod (pe_op op_fdivW (pv 5) pe_int) pe_int) pe_int (by first | exact nomark _ | rfl)) (pss_one (ps_asg (pe_op op_mod (pe_op op_fdivW (pv 5) pe_int) pe_int) (pg_sub (pv 3) (pv 4) set_list))) pss_nil)
      (pss_one (ps_if (PW.pt (pw_and (pt_cmpR (op_eqU hu64) (pv 4) pe_int (by first | exact nomark _ | rfl)) (pw_and1 (pt_cmpR op_gtU (pe_op op_mod (pe_op op_fdivW (pv 5) pe_int) pe_int) pe_int (by first | exact nomark _ | rfl))))) (pss_one (ps_asg pe_int (pg_sub (pv 3) (pv 4) set_list))) pss_nil)))))))
      (pss_one (ps_ret (pv 3)))))))), ?_⟩
    refine ⟨_, rfl, _, _, rfl, rfl, (by show (0 : Int) < 11; decide), ?_⟩
    refine ⟨fun σ H' => (∃ c : Nat, σ = [some (.int x), some (.int (c : Int)), none, none, none, none] ∧ c ≤ 29) ∧ H' = H, ?_, ?_⟩
    · refine ⟨_, rfl, _, _, rfl, rfl, ⟨by decide, by decide⟩, ?_⟩
      refine ⟨_, _, rfl, rfl, (by show (0 : Int) < 8; decide), ?_⟩
      refine ⟨rfl, _, rfl, ?_⟩
      refine ite_eq (I_dec _ _) (iteD (fun h1 => ?_) (fun h1 => ?_))
      · refine ⟨_, rfl, _, _, rfl, rfl, ⟨by decide, by decide⟩, ?_⟩
        refine ⟨_, _, rfl, rfl, (by show (0 : Int) < 30; decide), ?_⟩
        have e1 := Int.emod_nonneg (x / 88) (by decide : (30 : Int) ≠ 0)
        have e2 := Int.emod_lt_of_pos (x / 88) (by decide : (0 : Int) < 30)
        exact ⟨⟨(x / 88 % 30).toNat, by rw [show ((x / 88 % 30).toNat : Int) = x / 88 % 30 by omega]; rfl, by omega⟩, rfl⟩
      · have e1 := Int.emod_nonneg x (by decide : (11 : Int) ≠ 0)
        have e2 := Int.emod_lt_of_pos x (by decide : (0 : Int) < 11)
        exact ⟨⟨(x % 11).toNat, by rw [show ((x % 11).toNat : Int) = x % 11 by omega]; rfl, by omega⟩, rfl⟩
    rintro σ H1 ⟨⟨c, rfl, hc⟩, rfl⟩
    refine ⟨_, rfl, _, _, rfl, rfl, ⟨by decide, by decide⟩, ?_⟩
    refine ⟨(by show 0 ≤ sizeLine; decide), fun q hq => ?_⟩
    have f1 : Fr [] H1 (upd H1 q (.lst [])) := Fr.new hq
    have q1 : upd H1 q (.lst []) q = some (.lst (natZ [])) := upd_same
    show gName 3 (V.ref q) _ (upd H1 q (.lst [])) _
    generalize upd H1 q (.lst []) = H2 at f1 q1
    refine ⟨_, rfl, ?_⟩
    refine ⟨_, rfl, by show -(2 ^ 62) ≤ ((c : Nat) : Int); omega, by show ((c : Nat) : Int) < 2 ^ 62; omega, for_range (lo := 0) (n := c) (fun i σ H' => ∃ (r : Int) (v4 v5 : Option V) (zs : List Nat), σ = [some (.int x), some (.int (c : Int)), some (.int r), some (.ref q), v4, v5] ∧ H' q = some (.lst (natZ zs)) ∧ zs.length = i ∧ (∀ z ∈ zs, z ≤ 69) ∧ Fr [] H1 H')
      ⟨_, _, _, [], rfl, q1, rfl, fun z h => by simp at h, f1⟩ (fun i σ H3 hi hI => ?_) (fun σ H3 hI => ?_)⟩
    · obtain ⟨r, v4, v5, zs, rfl, q3, hl, hz, f3⟩ := hI
      refine ⟨_, rfl, _, rfl, _, rfl, ?_⟩
      refine ⟨_, _, rfl, by omega, by omega, fun y hy => ?_⟩
      refine ⟨_, rfl, _, _, rfl, rfl, ⟨by decide, by decide⟩, ?_⟩
      refine ⟨_, rfl, Or.inl ⟨rfl, _, SqL.of q3⟩, ?_⟩
      refine ⟨_, rfl, _, _, rfl, rfl, (by show (0 : Int) < 4; decide), ?_⟩
      have a1 := Int.emod_nonneg y (by decide : (4 : Int) ≠ 0)
      have a2 := Int.emod_lt_of_pos y (by decide : (0 : Int) < 4)
      refine ⟨q, _, _, rfl, rfl, q3, (by unfold natZ; rw [List.length_map, sizeLine_eq]; omega), ?_⟩
      have e4 : natZ zs ++ [V.int (y % 4)] = natZ (zs ++ [(y % 4).toNat]) := by
        unfold natZ
        rw [List.map_append]
        show _ ++ [_] = _ ++ [V.int (((y % 4).toNat : Nat) : Int)]
        rw [show (((y % 4).toNat : Nat) : Int) = y % 4 by omega]
      have f4 : Fr [] H1 (upd H3 q (.lst (natZ (zs ++ [(y % 4).toNat])))) := f3.skip hq
      have q4 : upd H3 q (.lst (natZ (zs ++ [(y % 4).toNat]))) q = some (.lst (natZ (zs ++ [(y % 4).toNat]))) := upd_same
      have z4 : ∀ z ∈ zs ++ [(y % 4).toNat], z ≤ 69 := fun z h => by
        rcases List.mem_append.mp h with h | h
        · exact hz z h
        · have e : z = (y % 4).toNat := by simpa using h
          omega
      have l4 : (zs ++ [(y % 4).toNat]).length = i + 1 := by rw [List.length_append, hl]; rfl
      rw [show natZ zs ++ [V.int ((fun i j => i % j) y 4)] = natZ (zs ++ [(y % 4).toNat]) from e4]
      generalize zs ++ [(y % 4).toNat] = zs4 at f4 q4 z4 l4 ⊢
      generalize upd H3 q (.lst (natZ zs4)) = H4 at f4 q4
      have ix : ∀ zs : List Nat, zs.length = i + 1 → ixN (natZ zs).length (0 + (i : Int)) = some i := fun zs h => by
        rw [Int.zero_add]
        exact ixN_nat (by unfold natZ; rw [List.length_map]; omega)
      refine ⟨fun σ H' => ∃ zs : List Nat, σ = [some (.int x), some (.int (c : Int)), some (.int (r / 10007)), some (.ref q), some (.int (0 + (i : Int))), some (.int y)] ∧ H' q = some (.lst (natZ zs)) ∧ zs.length = i + 1 ∧ (∀ z ∈ zs, z ≤ 69) ∧ Fr [] H1 H', ?_, ?_⟩
      · refine ⟨_, rfl, _, _, rfl, rfl, ⟨by decide, by decide⟩, ?_⟩
        refine ⟨_, _, rfl, rfl, (by show (0 : Int) < 16; decide), ?_⟩
        refine ⟨rfl, _, rfl, ?_⟩
        refine ite_eq (I_dec _ _) (iteD (fun h1 => ?_) (fun h1 => ⟨zs4, rfl, q4, l4, z4, f4⟩))
        refine ⟨_, rfl, _, _, rfl, rfl, ⟨by decide, by decide⟩, ?_⟩
        refine ⟨_, _, rfl, rfl, (by show (0 : Int) < 70; decide), ?_⟩
        have b1 := Int.emod_nonneg (y / 64) (by decide : (70 : Int) ≠ 0)
        have b2 := Int.emod_lt_of_pos (y / 64) (by decide : (0 : Int) < 70)
        obtain ⟨d, hd⟩ : ∃ d : Nat, y / 64 % 70 = d := ⟨(y / 64 % 70).toNat, by omega⟩
        refine ⟨_, rfl, _, rfl, q, _, _, i, rfl, rfl, q4, ix zs4 l4, ?_⟩
        refine ⟨zs4.set i d, rfl, ?_, by rw [List.length_set]; exact l4, all_set z4 (by omega), f4.skip hq⟩
        rw [upd_same, ← natZ_set, ← hd]
      clear f4 q4 z4 l4
      rintro σ H5 ⟨zs5, rfl, q5, l5, z5, f5⟩
      refine ⟨_, rfl, rfl, _, rfl, ?_⟩
      refine ite_eq (I_dec _ _) (iteD (fun h1 => ?_) (fun h1 => ⟨_, _, _, zs5, rfl, q5, l5, z5, f5⟩))
      refine ⟨_, rfl, _, _, rfl, rfl, ⟨by decide, by decide⟩, ?_⟩
      refine ⟨_, _, rfl, rfl, (by show (0 : Int) < 4; decide), ?_⟩
      refine ⟨_, rfl, ?_⟩
      refine iteD (fun h2 => ?_) (fun h2 => ⟨_, _, _, zs5, rfl, q5, l5, z5, f5⟩)
      refine ⟨_, rfl, _, rfl, q, _, _, i, rfl, rfl, q5, ix zs5 l5, ?_⟩
      refine ⟨_, _, _, zs5.set i 0, rfl, ?_, by rw [List.length_set]; exact l5, all_set z5 (by omega), f5.skip hq⟩
      rw [upd_same]
      exact congrArg (fun z => some (HO.lst z)) (natZ_set zs5 i 0)
    · obtain ⟨r, v4, v5, zs, rfl, q3, hl, hz, f3⟩ := hI
      exact ⟨_, rfl, k q zs H3 (by omega) hz q3 hq f3⟩
end

end LX
namespace LX
open PySem PySem.Spec PyProof.Rows L2 NdefX
set_option hygiene false in
local macro_rules | `(tactic| k_memK) => `(tactic| first | exact W.na_Store_room | exact W.na_Store_entries | exact W.na_Store_words | exact W.na_Store__places | exact W.na_Store__least | exact W.na_Space_store | exact W.na_Space_pressure | exact W.na_Space_always | exact W.na_Space_allocations | exact W.na_Space_collections | exact W.na_Space__roots | exact W.na_Space__held | exact W.na_Space__saved)
set_option hygiene false in
local macro_rules | `(tactic| k_ownIn) => `(tactic| first | exact W.C_Store | exact W.C_Space)
local macro_rules | `(tactic| none_booked) => `(tactic| first | assumption | (refine Fr.g0 (by assumption) ?_; none_booked))
local macro_rules | `(tactic| one_sign) => `(tactic| repeat (first
  | refine Stp.h ?_
  | ((with_reducible refine' z_fld1 ?k0 ?k1 ?k2 ?k3 ?_); (case k0 => none_booked); (case k1 => k_ownIn); (case k2 => k_memK); (case k3 => rfl))
  | ((with_reducible refine' z_meth1 ?k0 ?k1 ?_); (case k0 => none_booked); (case k1 => rfl))
  | ((with_reducible refine' z_bmL ?k0 ?_); (case k0 => none_booked))
  | ((with_reducible refine' z_lenL ?k0 ?_); (case k0 => none_booked))
  | ((with_reducible refine' z_lenT ?k0 ?_); (case k0 => none_booked))
  | ((with_reducible refine' z_lenD ?k0 ?_); (case k0 => none_booked))
  | ((with_reducible refine' z_truL ?k0 ?_); (case k0 => none_booked))
  | ((with_reducible refine' z_truD ?k0 ?_); (case k0 => none_booked))
  | ((with_reducible refine' z_truT ?k0 ?_); (case k0 => none_booked))
  | ((with_reducible refine' z_inDIP ?k0 ?_); (case k0 => none_booked))
  | ((with_reducible refine' z_inDIN ?k0 ?_); (case k0 => none_booked))
  | ((with_reducible refine' z_inDfP ?k0 ?_); (case k0 => none_booked))
  | ((with_reducible refine' z_inDfN ?k0 ?_); (case k0 => none_booked))
  | ((with_reducible refine' z_iList1 ?k0 ?_); (case k0 => none_booked))
  | ((with_reducible refine' z_isi0 ?k0 ?k1 ?k2 ?_); (case k0 => exact (ClsV.ty _)); (case k1 => exact (TyX.base (TyOf.lst (by none_booked)))); (case k2 => first | exact kt_list_int | exact kt_list_bool | exact kt_list_str | exact kt_list_list | exact kt_list_tuple | exact kt_list_dict))
  | ((with_reducible refine' z_rI ?k0 ?_); (case k0 => first | exact (by decide : (0 : Int) < _) | exact ⟨by decide, by decide⟩ | exact ⟨by decide, by decide, by decide⟩ | (show (0 : Int) < _; omega)))
  | ((with_reducible refine' z_mulI ?k0 ?_); (case k0 => first | exact Or.inr ⟨by decide, by decide⟩ | exact Or.inl ⟨by decide, by decide⟩ | exact Or.inl ⟨by omega, by omega⟩ | exact Or.inr ⟨by omega, by omega⟩))))
local macro_rules | `(tactic| leaf_len) => `(tactic| (simp only [wipe, List.map_cons, List.map_nil, List.set_cons_zero, List.set_cons_succ]; one_sign; refine z_ok rfl ?_; one_sign))
section
variable {P : Program} {w : World} {K : PySem.W.Frag} {mg : Str → Option Value} {base : Heap}
/-- lists of words at their places -/
structure RwL (H : Hp) (A : List Addr) (R : List (List Int)) : Prop where
  len : A.length = R.length
  it : ∀ (i : Nat) (a : Addr) (r : List Int), A[i]? = some a → R[i]? = some r → H a = some (.lst (r.map V.int))
theorem RwL.keep {H H' : Hp} {A : List Addr} {R : List (List Int)} (L : RwL H A R) {F : List Addr} (f : Fr F H H') (h : ∀ a ∈ A, a ∉ F) : RwL H' A R := ⟨L.len, fun i a r ha hr => f _ _ (L.it i a r ha hr) (h a (List.mem_of_getElem? ha))⟩
theorem RwL.mono {H H' : Hp} {A : List Addr} {R : List (List Int)} (L : RwL H A R) (f : Fr [] H H') : RwL H' A R := L.keep f (by simp)
theorem RwL.snoc {H : Hp} {A : List Addr} {R : List (List Int)} (L : RwL H A R) {a : Addr} {r : List Int} (h : H a = some (.lst (r.map V.int))) : RwL H (A ++ [a]) (R ++ [r]) := by
  refine ⟨by rw [List.length_append, List.length_append, L.len]; rfl, fun i b s hb hs => ?_⟩
  rcases get_snoc hb with hb | ⟨e1, e2⟩
  · rcases get_snoc hs with hs | ⟨e3, e4⟩
    · exact L.it i b s hb hs
    · have := (List.getElem?_eq_some_iff.mp hb).1
      have := L.len
      omega
  · rcases get_snoc hs with hs | ⟨e3, e4⟩
    · have := (List.getElem?_eq_some_iff.mp hs).1
      have := L.len
      omega
    · rw [e2, e4]; exact h
def sp_rows : Sp := fun vs H Q _ => ∃ (sa : Addr) (zs : List Nat) (x : Int), vs = [.ref sa, .int x] ∧ H sa = some (.lst (natZ zs)) ∧ zs.length ≤ 29 ∧ (∀ z ∈ zs, z ≤ 69) ∧
  ∀ q (A : List Addr) (R : List (List Int)) H', H' q = some (.lst (A.map V.ref)) → RwL H' A R → R.map (·.length) = zs.map (· + 1) → A.Nodup → (∀ a ∈ A, H a = none) → H q = none → Fr [] H H' → Q (.ref q) H'
theorem natZ_len (l : List Nat) : (natZ l).length = l.length := by unfold natZ; rw [List.length_map]
theorem natZ_at {l : List Nat} {i z : Nat} (h : l[i]? = some z) : atI (natZ l) (i : Int) = some (V.int (z : Int)) := atI_nat (by unfold natZ; rw [List.getElem?_map, h]; rfl)
theorem ok__law_rows (W : WT P K mg base) : FnOk P w K mg base CX0 2 W.f__law_rows W.fd__law_rows ["_law_sizes_here", "_law_x"] sp_rows := by
  refine W.F__law_rows.ok sc__law_rows (fun vs H Q E h => by obtain ⟨sa, zs, x, rfl, hsa, hl, hz, k⟩ := h; rfl) (fun cdv A outer s H vs Q E hr h => ?_)
  obtain ⟨sa, zs, x, rfl, hsa, hl, hz, k⟩ := h
  have hu1 := hu_of hr
  have hu64 := hu64_of hr
  refine ⟨_, (pss_cons (ps_set (i := 2) sc__law_rows.nd rfl (by first | exact Or.inl rfl | exact Or.inr rfl) (pe_lst pa_nil))
      (pss_cons (ps_set (i := 3) sc__law_rows.nd rfl (by first | exact Or.inl rfl | exact Or.inr rfl) (pv 1))
      (pss_cons (ps_for PassesOwn.never rfl (pi_range1 (by rfl) W.n_range (pa_cons (pe_callB call_lenU (by rfl) W.n_len bb_len (pa_cons (pv 0) pa_nil)) pa_nil)) (pg_name (i := 4) sc__law_rows.nd rfl (by first | exact Or.inl rfl | exact Or.inr rfl)) (pss_cons (ps_set (i := 5) sc__law_rows.nd rfl (by first | exact Or.inl rfl | exact Or.inr rfl) (pe_call (ok__law_number W) (hr.mono (by decide)) rfl W.g__law_number W.F__law_number.kp W.b__law_number .nil pass0 (pa_cons (pe_op op_addU (pv 3) (pv 4)) (pa_cons (pv 4) pa_nil))))
      (pss_cons (ps_set (i := 3) sc__law_rows.nd rfl (by first | exact Or.inl rfl | exact Or.inr rfl) (pe_op op_fdivW (pv 3) pe_int))
      (pss_cons (ps_setLc (i := 6) (own := [("_law_at", 7)]) (g := gName 7) (tt := tYes) rfl sc__law_rows.nd rfl rfl (sw_true rfl rfl rfl (by decide +kernel)) (pi_range1 (by rfl) W.n_range (pa_cons (pe_op op_addU pe_int (pe_ix (ix_U hu1) (pv 0) (pv 4) (fun _ _ => rfl))) pa_nil)) (blkOk_by (N := N__law_rows) (sc := defScope s__law_rows) (by first | decide +kernel | rfl)) (fun _ _ _ _ _ => (pg_name (i := 7) sc__law_rows.nd rfl (by first | exact Or.inl rfl | exact Or.inr rfl))) (fun _ _ _ _ _ => pts_nil) (fun _ _ _ _ _ => (pe_call (ok__law_word W) (hr.mono (by decide)) rfl W.g__law_word W.F__law_word.kp W.b__law_word .nil pass0 (pa_cons (pe_op (op_addUK (K := K) rfl) (pe_op (op_addUK (K := K) rfl) (pe_op op_fdivW (pv 5) pe_int) (pe_op op_mulU (pv 7) pe_int)) (pe_op op_mulU (pv 7) (pv 7))) (pa_cons (pe_callB (call_lenUK (K := K) rfl) (by rfl) W.n_len bb_len (pa_cons (pv 0) pa_nil)) pa_nil)))))
      (Evl.pss_cut (ps_if (pt_cmpR (op_eqU hu64) (pe_op op_mod (pe_callTy call_intU (by rfl) W.n_int bb_int (pa_cons (pv 5) pa_nil)) pe_int) pe_int (by first | exact nomark _ | rfl)) (pss_one (ps_asg pe_int (pg_sub (pv 6) pe_int set_list))) pss_nil)
      (Evl.pss_cut (ps_if (PW.pt (pw_and (pt_cmpR (op_eqU hu64) (pe_op op_mod (pe_callTy call_intU (by rfl) W.n_int bb_int (pa_cons (pv 5) pa_nil)) pe_int) pe_int (by first | exact nomark _ | rfl)) (pw_and (pt_cmpR op_gtU (pe_ix (ix_U hu1) (pv 0) (pv 4) (fun _ _ => rfl)) pe_int (by first | exact nomark _ | rfl)) (pw_and1 (pt_cmpR op_gtU (pv 4) pe_int (by first | exact nomark _ | rfl)))))) (pss_one (ps_asg (pe_op op_mulU pe_int (pe_op op_sub (pv 4) pe_int)) (pg_sub (pv 6) pe_int set_list))) pss_nil)
      (pss_one (ps_expr (pe_bm PySem.F.plainAttrs_list PySem.F.slot_list_append PySem.F.type_list_append mt_append (pv 2) (pa_cons (pv 6) pa_nil))))))))))
      (pss_one (ps_ret (pv 2)))))), ?_⟩
  refine z_start (σ := [some _, some _, none, none, none, none, none, none]) rfl ?_
  one_sign
  refine z_newL (by show 0 ≤ sizeLine; decide) fun q H1 hq f1 q1 => ?_
  one_sign
  rw [natZ_len]
  refine z_rng1 zs.length rfl (by omega) ?_
  refine for_range (lo := 0) (n := zs.length) (fun i σ H' => ∃ (r : Int) (v4 v5 v6 v7 : Option V) (A : List Addr) (R : List (List Int)), σ = [some (.ref sa), some (.int x), some (.ref q), some (.int r), v4, v5, v6, v7] ∧ H' q = some (.lst (A.map V.ref)) ∧ RwL H' A R ∧ R.map (·.length) = (zs.take i).map (· + 1) ∧ q ∉ A ∧ A.Nodup ∧ (∀ a ∈ A, H a = none) ∧ Fr [] H H')
    ⟨_, _, _, _, _, [], [], rfl, q1, ⟨rfl, fun i a r h => by simp at h⟩, rfl, by simp, List.nodup_nil, by simp, f1⟩ (fun i σ H2 hi hI => ?_) (fun σ H2 hI => ?_)
  · obtain ⟨r, v4, v5, v6, v7, A, R, rfl, q2, L2, hR, hqA, hndA, hA0, f2⟩ := hI
    one_sign
    refine ⟨_, _, rfl, by omega, by omega, fun y hy => ?_⟩
    have hs2 := f2.g0 hsa
    obtain ⟨z, hzi⟩ : ∃ z, zs[i]? = some z := ⟨_, List.getElem?_eq_getElem hi⟩
    have hz19 := hz z (List.mem_of_getElem? hzi)
    one_sign
    refine z_ixL hs2 (by rw [Int.zero_add]; exact natZ_at hzi) ?_
    one_sign
    refine z_rng1 (1 + z) (by omega) (by omega) ?_
    refine z_lcR (fun j xs H' => ∃ cs : List Int, xs = cs.map V.int ∧ cs.length = j) (fun _ _ _ _ => ⟨[], rfl, rfl⟩) ?_ ?_
    · intro L j xs H3 hL hj hl3 hcs hx f3
      obtain ⟨cs, rfl, hc⟩ := hcs
      have hs3 := f3.g0 hs2
      leaf_len
      rw [natZ_len]
      refine ⟨_, _, rfl, by omega, by omega, fun c H9 f9 => ?_⟩
      exact z_lcY hL (f9.g0 hx) (f3.trans f9) hl3 (by rw [sizeLine_eq]; omega) fun H5 _ _ _ => ⟨cs ++ [c], by rw [List.map_append]; rfl, by rw [List.length_append, hc]; rfl⟩
    intro L xs H3 hL hcs hl3 hx f3
    obtain ⟨cs, rfl, hc⟩ := hcs
    one_sign
    have nLq : L ≠ q := fun e => by rw [e, q2] at hL; cases hL
    refine Evl.q_cut (M := fun σ H' => ∃ cs : List Int, σ = [some (.ref sa), some (.int x), some (.ref q), some (.int (r / 1000003)), some (.int (0 + (i : Int))), some (.int y), some (.ref L), v7] ∧ H' L = some (.lst (cs.map V.int)) ∧ cs.length = 1 + z ∧ Fr [] H2 H') ?_ ?_
    · one_sign
      refine iteD (fun h => ?_) (fun h => ?_)
      · one_sign
        refine z_setL hx (ixN_nat (i := 0) (by rw [List.length_map]; omega)) fun H4 f4 h4 n4 => ?_
        one_sign
        exact ⟨cs.set 0 0, rfl, by rw [h4, set_int], by rw [List.length_set]; exact hc, f3.in f4 hL⟩
      · one_sign
        exact ⟨cs, rfl, hx, hc, f3⟩
    rintro σ H4 ⟨cs, rfl, hx, hc, f4⟩
    refine Evl.q_cut (M := fun σ H' => ∃ cs : List Int, σ = [some (.ref sa), some (.int x), some (.ref q), some (.int (r / 1000003)), some (.int (0 + (i : Int))), some (.int y), some (.ref L), v7] ∧ H' L = some (.lst (cs.map V.int)) ∧ cs.length = 1 + z ∧ Fr [] H2 H') ?_ ?_
    · have hs4 := f4.g0 hs2
      one_sign
      refine iteD (fun h => ?_) (fun h => ?_)
      · one_sign
        refine z_ixL hs4 (by rw [Int.zero_add]; exact natZ_at hzi) ?_
        one_sign
        refine iteD (fun h => ?_) (fun h => ?_)
        · one_sign
          refine iteD (fun h => ?_) (fun h => ?_)
          · one_sign
            have hz0 : (0 : Int) < (z : Int) := by assumption
            refine z_setL hx (ixN_nat (i := 1) (by rw [List.length_map]; omega)) fun H5 f5 h5 n5 => ?_
            one_sign
            exact ⟨cs.set 1 _, rfl, by rw [h5, set_int], by rw [List.length_set]; exact hc, f4.in f5 hL⟩
          · one_sign
            exact ⟨cs, rfl, hx, hc, f4⟩
        · one_sign
          exact ⟨cs, rfl, hx, hc, f4⟩
      · one_sign
        exact ⟨cs, rfl, hx, hc, f4⟩
    rintro σ H5 ⟨cs, rfl, hx, hc, f5⟩
    have q5 := f5.g0 q2
    one_sign
    refine z_append q5 (by rw [List.length_map, L2.len, sizeLine_eq]; have := congrArg List.length hR; rw [List.length_map, List.length_map, List.length_take] at this; omega) fun H6 f6 h6 n6 => ?_
    have L5 := L2.mono f5
    refine ⟨_, _, _, _, _, A ++ [L], R ++ [cs], rfl, by rw [h6, List.map_append]; rfl, ?_, ?_, ?_, ?_, ?_, (f2.trans f5).in f6 hq⟩
    · exact (L5.keep f6 (fun a ha => by simp; intro e; exact hqA (e ▸ ha))).snoc (f6.g hx (by simpa using nLq))
    · rw [List.map_append, hR, List.take_succ, hzi, List.map_append]
      show _ ++ [cs.length] = _ ++ [z + 1]
      rw [hc, Nat.add_comm]
    · simp only [List.mem_append, List.mem_singleton, not_or]
      exact ⟨hqA, nLq.symm⟩
    · refine List.nodup_append.mpr ⟨hndA, by simp, fun b hb c hc e => ?_⟩
      rw [show c = L by simpa using hc] at e
      subst e
      obtain ⟨u, hu⟩ := List.getElem?_of_mem hb
      obtain ⟨r, hr⟩ : ∃ r, R[u]? = some r := ⟨_, List.getElem?_eq_getElem (by rw [← L2.len]; exact (List.getElem?_eq_some_iff.mp hu).1)⟩
      have := L2.it u _ r hu hr
      rw [hL] at this; cases this
    · intro b hb
      rcases List.mem_append.mp hb with h | h
      · exact hA0 b h
      · rw [show b = L by simpa using h]; exact f2.none hL
  · obtain ⟨r, v4, v5, v6, v7, A, R, rfl, q2, L2, hR, hqA, hndA, hA0, f2⟩ := hI
    one_sign
    exact k q A R H2 q2 L2 (by rw [hR, List.take_length]) hndA hA0 hq f2
end

end LX
namespace LX
open PySem PySem.Spec PyProof.Rows L2 NdefX
set_option hygiene false in
local macro_rules | `(tactic| k_memK) => `(tactic| first | exact W.na_Store_room | exact W.na_Store_entries | exact W.na_Store_words | exact W.na_Store__places | exact W.na_Store__least | exact W.na_Space_store | exact W.na_Space_pressure | exact W.na_Space_always | exact W.na_Space_allocations | exact W.na_Space_collections | exact W.na_Space__roots | exact W.na_Space__held | exact W.na_Space__saved)
set_option hygiene false in
local macro_rules | `(tactic| k_ownIn) => `(tactic| first | exact W.C_Store | exact W.C_Space)
local macro_rules | `(tactic| none_booked) => `(tactic| first | assumption | (refine Fr.g0 (by assumption) ?_; none_booked))
local macro_rules | `(tactic| one_sign) => `(tactic| repeat (first
  | refine Stp.h ?_
  | ((with_reducible refine' z_fld1 ?k0 ?k1 ?k2 ?k3 ?_); (case k0 => none_booked); (case k1 => k_ownIn); (case k2 => k_memK); (case k3 => rfl))
  | ((with_reducible refine' z_meth1 ?k0 ?k1 ?_); (case k0 => none_booked); (case k1 => rfl))
  | ((with_reducible refine' z_bmL ?k0 ?_); (case k0 => none_booked))
  | ((with_reducible refine' z_lenL ?k0 ?_); (case k0 => none_booked))
  | ((with_reducible refine' z_lenT ?k0 ?_); (case k0 => none_booked))
  | ((with_reducible refine' z_lenD ?k0 ?_); (case k0 => none_booked))
  | ((with_reducible refine' z_truL ?k0 ?_); (case k0 => none_booked))
  | ((with_reducible refine' z_truD ?k0 ?_); (case k0 => none_booked))
  | ((with_reducible refine' z_truT ?k0 ?_); (case k0 => none_booked))
  | ((with_reducible refine' z_inDIP ?k0 ?_); (case k0 => none_booked))
  | ((with_reducible refine' z_inDIN ?k0 ?_); (case k0 => none_booked))
  | ((with_reducible refine' z_inDfP ?k0 ?_); (case k0 => none_booked))
  | ((with_reducible refine' z_inDfN ?k0 ?_); (case k0 => none_booked))
  | ((with_reducible refine' z_iList1 ?k0 ?_); (case k0 => none_booked))
  | ((with_reducible refine' z_isi0 ?k0 ?k1 ?k2 ?_); (case k0 => exact (ClsV.ty _)); (case k1 => exact (TyX.base (TyOf.lst (by none_booked)))); (case k2 => first | exact kt_list_int | exact kt_list_bool | exact kt_list_str | exact kt_list_list | exact kt_list_tuple | exact kt_list_dict))
  | ((with_reducible refine' z_rI ?k0 ?_); (case k0 => first | exact (by decide : (0 : Int) < _) | exact ⟨by decide, by decide⟩ | exact ⟨by decide, by decide, by decide⟩ | (show (0 : Int) < _; omega)))
  | ((with_reducible refine' z_mulI ?k0 ?_); (case k0 => first | exact Or.inr ⟨by decide, by decide⟩ | exact Or.inl ⟨by decide, by decide⟩ | exact Or.inl ⟨by omega, by omega⟩ | exact Or.inr ⟨by omega, by omega⟩))))
local macro_rules | `(tactic| leaf_len) => `(tactic| (simp only [wipe, List.map_cons, List.map_nil, List.set_cons_zero, List.set_cons_succ]; one_sign; refine z_ok rfl ?_; one_sign))
section
variable {P : Program} {w : World} {K : PySem.W.Frag} {mg : Str → Option Value} {base : Heap}
def sp_roots : Sp := fun vs H Q _ => ∃ (m : Nat) (x : Int), vs = [.int (m : Int), .int x] ∧ m ≤ 1000 ∧
  ∀ q (ws : List Int) H', H' q = some (.lst (ws.map V.int)) → 16 ≤ ws.length → ws.length ≤ 28 → H q = none → Fr [] H H' → Q (.ref q) H'
theorem ok__law_roots (W : WT P K mg base) : FnOk P w K mg base CX0 2 W.f__law_roots W.fd__law_roots ["_law_many", "_law_x"] sp_roots := by
  refine W.F__law_roots.ok sc__law_roots (fun vs H Q E h => by obtain ⟨m, x, rfl, hm, k⟩ := h; rfl) (fun cdv A outer s H vs Q E hr h => ?_)
  obtain ⟨m, x, rfl, hm, k⟩ := h
  have hu1 := hu_of hr
  have hu64 := hu64_of hr
  refine ⟨_, (pss_cons (ps_set (i := 2) sc__law_roots.nd rfl (by first | exact Or.inl rfl | exact Or.inr rfl) (pe_lst pa_nil))
      (pss_cons (ps_set (i := 3) sc__law_roots.nd rfl (by first | exact Or.inl rfl | exact Or.inr rfl) (pv 1))
      (pss_cons (ps_for PassesOwn.never rfl (pi_range1 (by rfl) W.n_range (pa_cons pe_int pa_nil)) (pg_name (i := 4) sc__law_roots.nd rfl (by first | exact Or.inl rfl | exact Or.inr rfl)) (pss_cons (ps_set (i := 5) sc__law_roots.nd rfl (by first | exact Or.inl rfl | exact Or.inr rfl) (pe_call (ok__law_number W) (hr.mono (by decide)) rfl W.g__law_number W.F__law_number.kp W.b__law_number .nil pass0 (pa_cons (pe_op op_addU (pv 3) (pv 4)) (pa_cons (pe_op op_addU (pv 4) pe_int) pa_nil))))
      (pss_cons (ps_set (i := 3) sc__law_roots.nd rfl (by first | exact Or.inl rfl | exact Or.inr rfl) (pe_op op_fdivW (pv 3) pe_int))
      (pss_one (ps_if (pt_cmpR op_gtU (pv 4) pe_int (by first | exact nomark _ | rfl)) (pss_one (ps_if (pt_cmpR (op_eqU hu64) (pe_op op_mod (pe_callTy call_intU (by rfl) W.n_int bb_int (pa_cons (pv 5) pa_nil)) pe_int) pe_int (by first | exact nomark _ | rfl)) (pss_one (ps_expr (pe_bm PySem.F.plainAttrs_list PySem.F.slot_list_append PySem.F.type_list_append mt_append (pv 2) (pa_cons (pe_call (ok__law_word W) (hr.mono (by decide)) rfl W.g__law_word W.F__law_word.kp W.b__law_word .nil pass0 (pa_cons (pe_op op_fdivW (pv 5) pe_int) (pa_cons (pv 0) pa_nil))) pa_nil)))) pss_nil)) (pss_one (ps_if (pt_cmpR (op_eqU hu64) (pe_op op_mod (pe_callTy call_intU (by rfl) W.n_int bb_int (pa_cons (pv 5) pa_nil)) pe_int) pe_int (by first | exact nomark _ | rfl)) (pss_one (ps_expr (pe_bm PySem.F.plainAttrs_list PySem.F.slot_list_append PySem.F.type_list_append mt_append (pv 2) (pa_cons (pe_call (ok__law_word W) (hr.mono (by decide)) rfl W.g__law_word W.F__law_word.kp W.b__law_word .nil pass0 (pa_cons (pe_op op_fdivW (pv 5) pe_int) (pa_cons (pv 0) pa_nil))) pa_nil)))) (pss_one (ps_expr (pe_bm PySem.F.plainAttrs_list PySem.F.slot_list_append PySem.F.type_list_append mt_append (pv 2) (pa_cons pe_int pa_nil)))))))))))
      (pss_one (ps_ret (pv 2)))))), ?_⟩
  refine z_start (σ := [some _, some _, none, none, none, none]) rfl ?_
  one_sign
  refine z_newL (by show 0 ≤ sizeLine; decide) fun q H1 hq f1 q1 => ?_
  one_sign
  refine z_rng1 28 rfl (by decide) ?_
  refine for_range (lo := 0) (n := 28) (fun i σ H' => ∃ (r : Int) (v4 v5 : Option V) (ws : List Int), σ = [some (.int (m : Int)), some (.int x), some (.ref q), some (.int r), v4, v5] ∧ H' q = some (.lst (ws.map V.int)) ∧ ws.length ≤ i ∧ (i ≤ 16 → ws.length = i) ∧ (16 ≤ i → 16 ≤ ws.length) ∧ Fr [] H H')
    ⟨_, _, _, [], rfl, q1, by simp, by simp, by simp, f1⟩ (fun i σ H2 hi hI => ?_) (fun σ H2 hI => ?_)
  · obtain ⟨r, v4, v5, ws, rfl, q2, hl, h16, h17, f2⟩ := hI
    one_sign
    refine ⟨_, _, rfl, by omega, by omega, fun y hy => ?_⟩
    one_sign
    have app : ∀ c : Int, ∀ H3, Fr [q] H2 H3 → H3 q = some (.lst (ws.map V.int ++ [V.int c])) → ∃ (r' : Int) (v4 v5 : Option V) (ws' : List Int), [some (V.int (m : Int)), some (.int x), some (.ref q), some (.int (r / 1009)), some (.int (0 + (i : Int))), some (.int y)] = [some (V.int (m : Int)), some (.int x), some (.ref q), some (.int r'), v4, v5] ∧ H3 q = some (.lst (ws'.map V.int)) ∧ ws'.length ≤ i + 1 ∧ (i + 1 ≤ 16 → ws'.length = i + 1) ∧ (16 ≤ i + 1 → 16 ≤ ws'.length) ∧ Fr [] H H3 := fun c H3 f3 h3 =>
      ⟨_, _, _, ws ++ [c], rfl, by rw [h3, List.map_append]; rfl, by rw [List.length_append]; show ws.length + 1 ≤ i + 1; omega, fun h => by rw [List.length_append]; show ws.length + 1 = i + 1; have := h16 (by omega); omega, fun h => by rw [List.length_append]; show 16 ≤ ws.length + 1; by_cases e : i = 15; (have := h16 (by omega); omega); (have := h17 (by omega); omega), f2.in f3 hq⟩
    have lz : (ws.map V.int).length < sizeLine := by rw [List.length_map, sizeLine_eq]; omega
    refine iteD (fun h => ?_) (fun h => ?_)
    · have h : (15 : Int) < 0 + (i : Int) := h
      one_sign
      refine iteD (fun h2 => ?_) (fun h2 => ?_)
      · one_sign
        refine ⟨_, _, rfl, by omega, by omega, fun c H9 f9 => ?_⟩
        one_sign
        refine z_append (f9.g0 q2) lz fun H3 f3 h3 n3 => ?_
        exact app c H3 ((f9.mono (by simp)).trans f3) h3
      · one_sign
        exact ⟨_, _, _, ws, rfl, q2, by omega, fun h => by omega, fun h => h17 (by omega), f2⟩
    · have h : ¬ (15 : Int) < 0 + (i : Int) := h
      one_sign
      refine iteD (fun h2 => ?_) (fun h2 => ?_)
      · one_sign
        refine ⟨_, _, rfl, by omega, by omega, fun c H9 f9 => ?_⟩
        one_sign
        refine z_append (f9.g0 q2) lz fun H3 f3 h3 n3 => ?_
        exact app c H3 ((f9.mono (by simp)).trans f3) h3
      · one_sign
        refine z_append q2 lz fun H3 f3 h3 n3 => ?_
        exact app 0 H3 f3 h3
  · obtain ⟨r, v4, v5, ws, rfl, q2, hl, h16, h17, f2⟩ := hI
    one_sign
    exact k q ws H2 q2 (h17 (by omega)) hl hq f2
end
/-- the whole space: its things O, its roots rs, the held words hs; X: the places that change -/
structure SS (C CS PT : Addr) (H : Hp) (sp dxs st dx wl pl pr rt hd : Addr) (al co least : Int) (O : List Ob) (kvs : List (Key × V)) (rs hs : List Int) : Prop where
  S : SpaceAt H CS sp dxs st pr rt hd al co rs hs
  T : StoreAt H C st dx wl pl 100000 100000 least (flat O) kvs
  N : ApartS sp st pr rt hd wl
  G : Good O kvs least
  sz : ∀ o ∈ O, o.sl.length ≤ 69
  nn : ∀ o ∈ O, 0 ≤ o.num
  lv : ∀ o ∈ O, o.live = true
  len : O.length ≤ 1300
  fln : (flat O).length ≤ 5000
  rl : rs.length = 16
  hl : hs.length ≤ 12
  tab : LamX.TabS H PT qLam
def Spc (C CS PT : Addr) (H : Hp) (sp : Addr) (X : List Addr) (O : List Ob) (rs hs : List Int) : Prop := ∃ dxs st dx wl pl pr rt hd al co least kvs, X = [sp, st, wl, pl, rt, hd] ∧ SS C CS PT H sp dxs st dx wl pl pr rt hd al co least O kvs rs hs
theorem SS.keep {C CS PT : Addr} {H H' : Hp} {sp dxs st dx wl pl pr rt hd : Addr} {al co least : Int} {O : List Ob} {kvs : List (Key × V)} {rs hs : List Int} (s : SS C CS PT H sp dxs st dx wl pl pr rt hd al co least O kvs rs hs) (f : Fr [] H H') : SS C CS PT H' sp dxs st dx wl pl pr rt hd al co least O kvs rs hs :=
  ⟨s.S.keep f (by simp), s.T.keep f (by simp), s.N, s.G, s.sz, s.nn, s.lv, s.len, s.fln, s.rl, s.hl, s.tab.ext fun b o e => f.g0 e⟩
theorem Spc.keep {C CS PT : Addr} {H H' : Hp} {sp : Addr} {X : List Addr} {O : List Ob} {rs hs : List Int} (s : Spc C CS PT H sp X O rs hs) (f : Fr [] H H') : Spc C CS PT H' sp X O rs hs := by
  obtain ⟨dxs, st, dx, wl, pl, pr, rt, hd, al, co, least, kvs, e, s⟩ := s
  exact ⟨dxs, st, dx, wl, pl, pr, rt, hd, al, co, least, kvs, e, s.keep f⟩
theorem flat_setlen {O : List Ob} {i : Nat} {o o' : Ob} (h : O[i]? = some o) (hl : o'.sl.length = o.sl.length) : (flat (O.set i o')).length = (flat O).length := by
  induction O generalizing i with
  | nil => simp at h
  | cons a r ih =>
    cases i with
    | zero =>
      cases h
      show (fl o' ++ flat r).length = (fl _ ++ flat r).length
      unfold fl
      simp only [List.length_append, List.length_cons, hl]
    | succ i =>
      show (fl a ++ flat (r.set i o')).length = (fl a ++ flat r).length
      rw [List.length_append, List.length_append, ih (by simpa using h)]
/-- a thing changes in its contents -/
theorem SS.change {C CS PT : Addr} {H H' : Hp} {sp dxs st dx wl pl pr rt hd : Addr} {al co least : Int} {O : List Ob} {kvs : List (Key × V)} {rs hs : List Int} (s : SS C CS PT H sp dxs st dx wl pl pr rt hd al co least O kvs rs hs) {i : Nat} {o o' : Ob} (h : O[i]? = some o) (hn : o'.num = o.num) (hv : o'.live = o.live) (hl : o'.sl.length = o.sl.length)
    (f : Fr [wl] H H') (hw : H' wl = some (.lst ((flat (O.set i o')).map V.int))) : SS C CS PT H' sp dxs st dx wl pl pr rt hd al co least (O.set i o') kvs rs hs := by
  have n1 := ne_of s.T.st s.T.wl (by intro z; cases z)
  have n2 := ne_of s.T.pl s.T.wl (by intro z; cases z)
  have n3 := ne_of s.S.sp s.T.wl (by intro z; cases z)
  have g := fun (x : Ob) (hx : x ∈ O.set i o') => (List.mem_or_eq_of_mem_set hx)
  have mo := List.mem_of_getElem? h
  refine ⟨s.S.keep f (fun b hb => ?_), ⟨f.g s.T.st (by simpa using n1), hw, f.g s.T.pl (by simpa using n2)⟩, s.N, s.G.same h hn hv hl, fun x hx => ?_, fun x hx => ?_, fun x hx => ?_, by rw [List.length_set]; exact s.len, by rw [flat_setlen h hl]; exact s.fln, s.rl, s.hl, tab_out s.tab f (fun b hb => ?_)⟩
  · simp only [List.mem_cons, List.not_mem_nil, or_false] at hb ⊢
    have := s.N
    rcases hb with e | e | e | e
    · rw [e]; exact n3
    · rw [e]; exact this.p
    · rw [e]; exact this.r
    · rw [e]; exact this.h
  · rcases g x hx with e | e
    · exact s.sz x e
    · rw [e, hl]; exact s.sz o mo
  · rcases g x hx with e | e
    · exact s.nn x e
    · rw [e, hn]; exact s.nn o mo
  · rcases g x hx with e | e
    · exact s.lv x e
    · rw [e, hv]; exact s.lv o mo
  · have e : b = wl := by simpa using hb
    rw [e]
    exact ⟨_, s.T.wl, (by intro ps z; cases z), (by intro ps z; cases z)⟩
/-- the roots change -/
theorem SS.root {C CS PT : Addr} {H H' : Hp} {sp dxs st dx wl pl pr rt hd : Addr} {al co least : Int} {O : List Ob} {kvs : List (Key × V)} {rs hs rs' : List Int} (s : SS C CS PT H sp dxs st dx wl pl pr rt hd al co least O kvs rs hs) (hl : rs'.length = rs.length)
    (f : Fr [rt] H H') (hw : H' rt = some (.lst (rs'.map V.int))) : SS C CS PT H' sp dxs st dx wl pl pr rt hd al co least O kvs rs' hs := by
  have n1 := ne_of s.T.st s.S.rt (by intro z; cases z)
  have n2 := ne_of s.T.pl s.S.rt (by intro z; cases z)
  have n3 := ne_of s.S.sp s.S.rt (by intro z; cases z)
  refine ⟨⟨f.g s.S.sp (by simpa using n3), f.g s.S.pr (by simpa using s.N.b), hw, f.g s.S.hd (by simpa using s.N.d.symm)⟩, ⟨f.g s.T.st (by simpa using n1), f.g s.T.wl (by simpa using s.N.r.symm), f.g s.T.pl (by simpa using n2)⟩, s.N, s.G, s.sz, s.nn, s.lv, s.len, s.fln, hl.trans s.rl, s.hl, tab_out s.tab f (fun b hb => ?_)⟩
  have e : b = rt := by simpa using hb
  rw [e]
  exact ⟨_, s.S.rt, (by intro ps z; cases z), (by intro ps z; cases z)⟩
/-- a word more is held -/
theorem SS.held {C CS PT : Addr} {H H' : Hp} {sp dxs st dx wl pl pr rt hd : Addr} {al co least : Int} {O : List Ob} {kvs : List (Key × V)} {rs hs hs' : List Int} (s : SS C CS PT H sp dxs st dx wl pl pr rt hd al co least O kvs rs hs) (hl : hs'.length ≤ 12)
    (f : Fr [hd] H H') (hw : H' hd = some (.lst (hs'.map V.int))) : SS C CS PT H' sp dxs st dx wl pl pr rt hd al co least O kvs rs hs' := by
  have n1 := ne_of s.T.st s.S.hd (by intro z; cases z)
  have n2 := ne_of s.T.pl s.S.hd (by intro z; cases z)
  have n3 := ne_of s.S.sp s.S.hd (by intro z; cases z)
  refine ⟨⟨f.g s.S.sp (by simpa using n3), f.g s.S.pr (by simpa using s.N.c), f.g s.S.rt (by simpa using s.N.d), hw⟩, ⟨f.g s.T.st (by simpa using n1), f.g s.T.wl (by simpa using s.N.h.symm), f.g s.T.pl (by simpa using n2)⟩, s.N, s.G, s.sz, s.nn, s.lv, s.len, s.fln, s.rl, hl, tab_out s.tab f (fun b hb => ?_)⟩
  have e : b = hd := by simpa using hb
  rw [e]
  exact ⟨_, s.S.hd, (by intro ps z; cases z), (by intro ps z; cases z)⟩

end LX
namespace LX
open PySem PySem.Spec PyProof.Rows L2 NdefX
set_option hygiene false in
local macro_rules | `(tactic| k_memK) => `(tactic| first | exact W.na_Store_room | exact W.na_Store_entries | exact W.na_Store_words | exact W.na_Store__places | exact W.na_Store__least | exact W.na_Space_store | exact W.na_Space_pressure | exact W.na_Space_always | exact W.na_Space_allocations | exact W.na_Space_collections | exact W.na_Space__roots | exact W.na_Space__held | exact W.na_Space__saved)
set_option hygiene false in
local macro_rules | `(tactic| k_ownIn) => `(tactic| first | exact W.C_Store | exact W.C_Space)
local macro_rules | `(tactic| none_booked) => `(tactic| first | assumption | (refine Fr.g0 (by assumption) ?_; none_booked))
local macro_rules | `(tactic| one_sign) => `(tactic| repeat (first
  | refine Stp.h ?_
  | ((with_reducible refine' z_fld1 ?k0 ?k1 ?k2 ?k3 ?_); (case k0 => none_booked); (case k1 => k_ownIn); (case k2 => k_memK); (case k3 => rfl))
  | ((with_reducible refine' z_meth1 ?k0 ?k1 ?_); (case k0 => none_booked); (case k1 => rfl))
  | ((with_reducible refine' z_bmL ?k0 ?_); (case k0 => none_booked))
  | ((with_reducible refine' z_lenL ?k0 ?_); (case k0 => none_booked))
  | ((with_reducible refine' z_lenT ?k0 ?_); (case k0 => none_booked))
  | ((with_reducible refine' z_lenD ?k0 ?_); (case k0 => none_booked))
  | ((with_reducible refine' z_truL ?k0 ?_); (case k0 => none_booked))
  | ((with_reducible refine' z_truD ?k0 ?_); (case k0 => none_booked))
  | ((with_reducible refine' z_truT ?k0 ?_); (case k0 => none_booked))
  | ((with_reducible refine' z_inDIP ?k0 ?_); (case k0 => none_booked))
  | ((with_reducible refine' z_inDIN ?k0 ?_); (case k0 => none_booked))
  | ((with_reducible refine' z_inDfP ?k0 ?_); (case k0 => none_booked))
  | ((with_reducible refine' z_inDfN ?k0 ?_); (case k0 => none_booked))
  | ((with_reducible refine' z_iList1 ?k0 ?_); (case k0 => none_booked))
  | ((with_reducible refine' z_isi0 ?k0 ?k1 ?k2 ?_); (case k0 => exact (ClsV.ty _)); (case k1 => exact (TyX.base (TyOf.lst (by none_booked)))); (case k2 => first | exact kt_list_int | exact kt_list_bool | exact kt_list_str | exact kt_list_list | exact kt_list_tuple | exact kt_list_dict))
  | ((with_reducible refine' z_rI ?k0 ?_); (case k0 => first | exact (by decide : (0 : Int) < _) | exact ⟨by decide, by decide⟩ | exact ⟨by decide, by decide, by decide⟩ | (show (0 : Int) < _; omega)))
  | ((with_reducible refine' z_mulI ?k0 ?_); (case k0 => first | exact Or.inr ⟨by decide, by decide⟩ | exact Or.inl ⟨by decide, by decide⟩ | exact Or.inl ⟨by omega, by omega⟩ | exact Or.inr ⟨by omega, by omega⟩))))
local macro_rules | `(tactic| leaf_len) => `(tactic| (simp only [wipe, List.map_cons, List.map_nil, List.set_cons_zero, List.set_cons_succ]; one_sign; refine z_ok rfl ?_; one_sign))
theorem Fr.inF {H0 H H1 : Hp} {F : List Addr} (f : Fr [] H0 H) (g : Fr F H H1) (hq : ∀ q ∈ F, H0 q = Option.none) : Fr [] H0 H1 := fun b o e _ => g b o (f.g0 e) (fun hm => by rw [hq b hm] at e; cases e)
theorem Good.empty : Good [] [] 0 := ⟨fun k v => ⟨fun h => (by simp [valV] at h), fun ⟨i, o, h, _⟩ => by simp at h⟩, by simp, fun i j o o' h => by simp at h, ⟨Int.le_refl _, fun n h0 h1 => by omega⟩⟩
def Idx (O : List Ob) : Prop := ∀ (i : Nat) (o : Ob), O[i]? = some o → o.num = i
theorem Idx.live {O : List Ob} (h : Idx O) (hl : ∀ o ∈ O, o.live = true) (n : Int) : Live O n ↔ 0 ≤ n ∧ n < O.length := by
  constructor
  · rintro ⟨i, o, h1, h2, h3⟩
    have := (List.getElem?_eq_some_iff.mp h1).1
    have := h i o h1
    omega
  · rintro ⟨h0, h1⟩
    have e := List.getElem?_eq_getElem (l := O) (i := n.toNat) (by omega)
    exact ⟨n.toNat, _, e, hl _ (List.mem_of_getElem? e), by rw [h _ _ e]; omega⟩
/-- a thing more -/
theorem SS.add {C CS PT : Addr} {H H' : Hp} {sp dxs st dx wl pl pr rt hd : Addr} {al co least : Int} {O : List Ob} {kvs : List (Key × V)} {rs hs : List Int} (s : SS C CS PT H sp dxs st dx wl pl pr rt hd al co least O kvs rs hs) {m x al' : Int} {z : Nat} (hz : z ≤ 69) (ho : O.length ≤ 1299) (hfl : (flat O).length + 3 + z ≤ 5000)
    (S' : SpaceAt H' CS sp dxs st pr rt hd al' co rs hs) (T' : StoreAt H' C st dx wl pl 100000 100000 m (flat O ++ (m :: (z : Int) :: x :: List.replicate z 0)) (putK kvs (.inl m) (.int ((flat O).length : Int)))) (f : Fr [sp, st, wl, pl] H H') (hs1 : Seen kvs m) (hm : valV kvs (.inl m) = none) :
    SS C CS PT H' sp dxs st dx wl pl pr rt hd al' co m (O ++ [{ num := m, kind := x, sl := List.replicate z 0, live := true }]) (putK kvs (.inl m) (.int ((flat O).length : Int))) rs hs := by
  have eF : flat O ++ (m :: (z : Int) :: x :: List.replicate z 0) = flat (O ++ [{ num := m, kind := x, sl := List.replicate z 0, live := true }]) := by
    rw [flat_app]
    show _ = _ ++ (fl _ ++ [])
    rw [List.append_nil]
    unfold fl
    rw [List.length_replicate]
  rw [eF] at T'
  have g := fun (y : Ob) (hy : y ∈ O ++ [({ num := m, kind := x, sl := List.replicate z 0, live := true } : Ob)]) => List.mem_append.mp hy
  refine ⟨S', T', s.N, s.G.add (o := { num := m, kind := x, sl := List.replicate z 0, live := true }) rfl hm hs1, fun y hy => ?_, fun y hy => ?_, fun y hy => ?_, by rw [List.length_append]; show O.length + 1 ≤ 1300; omega, by rw [← eF, List.length_append]; simp only [List.length_cons, List.length_replicate]; omega, s.rl, s.hl, tab_out s.tab f (fun b hb => ?_)⟩
  · rcases g y hy with e | e
    · exact s.sz y e
    · have e := List.mem_singleton.mp e
      subst e
      show (List.replicate z (0 : Int)).length ≤ 69
      rw [List.length_replicate]; exact hz
  · rcases g y hy with e | e
    · exact s.nn y e
    · have e := List.mem_singleton.mp e
      subst e
      exact hs1.1
  · rcases g y hy with e | e
    · exact s.lv y e
    · have e := List.mem_singleton.mp e
      subst e
      rfl
  · simp only [List.mem_cons, List.not_mem_nil, or_false] at hb
    rcases hb with e | e | e | e <;> subst e
    · exact ⟨_, s.S.sp, (by intro ps z; cases z), (by intro ps z; cases z)⟩
    · exact ⟨_, s.T.st, (by intro ps z; cases z), (by intro ps z; cases z)⟩
    · exact ⟨_, s.T.wl, (by intro ps z; cases z), (by intro ps z; cases z)⟩
    · exact ⟨_, s.T.pl, (by intro ps z; cases z), (by intro ps z; cases z)⟩
theorem SS.flen {C CS PT : Addr} {H : Hp} {sp dxs st dx wl pl pr rt hd : Addr} {al co least : Int} {O : List Ob} {kvs : List (Key × V)} {rs hs : List Int} (s : SS C CS PT H sp dxs st dx wl pl pr rt hd al co least O kvs rs hs) : (flat O).length ≤ 5000 ∧ kvs.length ≤ 1300 := by
  have h1 := s.fln
  have h2 := s.G.kl
  have := s.len
  omega
/-- the things are those of the rows, but for what is not put yet -/
structure Fil (R : List (List Int)) (O : List Ob) (i a : Nat) : Prop where
  ix : Idx O
  it : ∀ (j : Nat) (o : Ob), O[j]? = some o → ∃ r, R[j]? = some r ∧ r[0]? = some o.kind ∧ o.sl.length + 1 = r.length ∧ ∀ b, (j < i ∨ j = i ∧ b < a) → o.sl[b]? = r[b + 1]?
theorem Fil.row {R : List (List Int)} {O : List Ob} {i : Nat} (f : Fil R O i 0) (hi : O.length ≤ i) (hl : O.length = R.length) : O.map rowOf = R := by
  refine List.ext_getElem? fun j => ?_
  rw [List.getElem?_map]
  cases e : O[j]? with
  | none =>
    have := List.getElem?_eq_none_iff.mp e
    exact (List.getElem?_eq_none_iff.mpr (by omega)).symm
  | some o =>
    obtain ⟨r, hr, h0, hlen, hb⟩ := f.it j o e
    rw [hr]
    have hj := (List.getElem?_eq_some_iff.mp e).1
    show some (o.kind :: o.sl) = some r
    congr 1
    refine List.ext_getElem? fun b => ?_
    cases b with
    | zero => rw [h0]; rfl
    | succ b => rw [List.getElem?_cons_succ, hb b (Or.inl (by omega))]
theorem Fil.next {R : List (List Int)} {O : List Ob} {i a : Nat} {r : List Int} (f : Fil R O i a) (hr : R[i]? = some r) (ha : r.length ≤ a + 1) : Fil R O (i + 1) 0 := by
  refine ⟨f.ix, fun j o ho => ?_⟩
  obtain ⟨r', hr', h0, hl, hb⟩ := f.it j o ho
  refine ⟨r', hr', h0, hl, fun b h => ?_⟩
  by_cases e : j = i
  · subst e
    rw [hr] at hr'
    cases hr'
    by_cases hb2 : b < a
    · exact hb b (Or.inr ⟨rfl, hb2⟩)
    · rw [List.getElem?_eq_none_iff.mpr (by omega), List.getElem?_eq_none_iff.mpr (by omega)]
  · exact hb b (Or.inl (by omega))
theorem Fil.put {R : List (List Int)} {O : List Ob} {i a : Nat} {r : List Int} {o : Ob} {x : Int} (f : Fil R O i a) (ho : O[i]? = some o) (hr : R[i]? = some r) (hx : r[a + 1]? = some x) : Fil R (O.set i { o with sl := o.sl.set a x }) i (a + 1) := by
  obtain ⟨r0, hr0, h0, hl, hb⟩ := f.it i o ho
  rw [hr] at hr0
  cases hr0
  have hal := (List.getElem?_eq_some_iff.mp hx).1
  refine ⟨fun j p hp => ?_, fun j p hp => ?_⟩
  · rw [set_get ho] at hp
    by_cases e : j = i
    · rw [if_pos e] at hp; cases hp
      rw [e]
      exact f.ix i o ho
    · rw [if_neg e] at hp; exact f.ix j p hp
  · rw [set_get ho] at hp
    by_cases e : j = i
    · rw [if_pos e] at hp; cases hp
      subst e
      refine ⟨r, hr, h0, by show (o.sl.set a x).length + 1 = _; rw [List.length_set]; exact hl, fun b h => ?_⟩
      show (o.sl.set a x)[b]? = _
      rw [List.getElem?_set]
      by_cases e2 : a = b
      · subst e2
        rw [if_pos rfl, if_pos (by omega), hx]
      · rw [if_neg e2]
        exact hb b (Or.inr ⟨rfl, by omega⟩)
    · rw [if_neg e] at hp
      obtain ⟨r', hr', h0', hl', hb'⟩ := f.it j p hp
      exact ⟨r', hr', h0', hl', fun b h => hb' b (Or.inl (by omega))⟩
theorem ref_at {A : List Addr} {i : Nat} {a : Addr} (h : A[i]? = some a) : (A.map V.ref)[i]? = some (V.ref a) := by rw [List.getElem?_map, h]; rfl
section
variable {P : Program} {w : World} {K : PySem.W.Frag} {mg : Str → Option Value} {base : Heap}
def sp_lspace (C CS PT : Addr) : Sp := fun vs H Q _ => ∃ (ra wa : Addr) (A : List Addr) (R : List (List Int)) (ws : List Int), vs = [.ref ra, .ref wa] ∧ H ra = some (.lst (A.map V.ref)) ∧ RwL H A R ∧ R.length ≤ 29 ∧ (∀ r ∈ R, 1 ≤ r.length ∧ r.length ≤ 70) ∧ H wa = some (.lst (ws.map V.int)) ∧ 16 ≤ ws.length ∧ ws.length ≤ 28 ∧ LamX.TabS H PT qLam ∧
  ∀ sp X O rs hs H', Spc C CS PT H' sp X O rs hs → rs ++ hs = ws → O.map rowOf = R → Idx O → (∀ b ∈ X, H b = none) → Fr [] H H' → Q (.ref sp) H'
theorem ok__law_space (W : WT P K mg base) : FnOk P w K mg base CX0 8 W.f__law_space W.fd__law_space ["_law_rows_here", "_law_words"] (sp_lspace W.c_Store W.c_Space W.PT_Store_close_up) := by
  refine W.F__law_space.ok sc__law_space (fun vs H Q E h => by obtain ⟨ra, wa, A, R, ws, rfl, hra, L, hR, hR2, hwa, h16, h20, tab, k⟩ := h; rfl) (fun cdv A outer s H vs Q E hr h => ?_)
  obtain ⟨ra, wa, A, R, ws, rfl, hra, L, hR, hR2, hwa, h16, h20, tab, k⟩ := h
  have hu1 := hu_of hr
  have hu64 := hu64_of hr
  refine ⟨_, (pss_cons (ps_set (i := 2) sc__law_space.nd rfl (by first | exact Or.inl rfl | exact Or.inr rfl) (pe_make W.M_Space (ok_Space___init__ W) (hr.mono (by decide)) rfl W.g_Space W.b_Space___init__ .nil pass0 (pa_cons pe_int (pa_cons pe_int pa_nil))))
      (pss_cons (ps_for PassesOwn.never rfl (pi_range1 (by rfl) W.n_range (pa_cons (pe_callB call_lenU (by rfl) W.n_len bb_len (pa_cons (pv 0) pa_nil)) pa_nil)) (pg_name (i := 3) sc__law_space.nd rfl (by first | exact Or.inl rfl | exact Or.inr rfl)) (pss_one (ps_if (pt_not (pt_truth (pe_call (ok__law_is W) (hr.mono (by decide)) rfl W.g__law_is W.F__law_is.kp W.b__law_is .nil pass0 (pa_cons (pe_meth (pv 2) W.C_Space W.m_Space_new (ok_Space_new W) (hr.mono (by decide)) W.b_Space_new .nil pass0 (pa_cons (pe_ix (ix_U hu1) (pe_ix (ix_U hu1) (pv 0) (pv 3) (fun _ _ => rfl)) pe_int (fun _ _ => rfl)) (pa_cons (pe_op op_sub (pe_callB call_lenU (by rfl) W.n_len bb_len (pa_cons (pe_ix (ix_U hu1) (pv 0) (pv 3) (fun _ _ => rfl)) pa_nil)) pe_int) pa_nil))) (pa_cons (pv 3) pa_nil))) (by intro _; rfl))) (pss_one (ps_ret pe_non)) pss_nil)))
      (pss_cons (ps_for PassesOwn.never rfl (pi_range1 (by rfl) W.n_range (pa_cons (pe_callB call_lenU (by rfl) W.n_len bb_len (pa_cons (pv 0) pa_nil)) pa_nil)) (pg_name (i := 3) sc__law_space.nd rfl (by first | exact Or.inl rfl | exact Or.inr rfl)) (pss_one (ps_for PassesOwn.never rfl (pi_range1 (by rfl) W.n_range (pa_cons (pe_op op_sub (pe_callB call_lenU (by rfl) W.n_len bb_len (pa_cons (pe_ix (ix_U hu1) (pv 0) (pv 3) (fun _ _ => rfl)) pa_nil)) pe_int) pa_nil)) (pg_name (i := 4) sc__law_space.nd rfl (by first | exact Or.inl rfl | exact Or.inr rfl)) (pss_one (ps_expr (pe_meth (pe_fld (pv 2) rfl) W.C_Store W.m_Store_put (ok_Store_put W) (hr.mono (by decide)) W.b_Store_put .nil pass0 (pa_cons (pv 3) (pa_cons (pv 4) (pa_cons (pe_ix (ix_U hu1) (pe_ix (ix_U hu1) (pv 0) (pv 3) (fun _ _ => rfl)) (pe_op op_addU (pv 4) pe_int) (fun _ _ => rfl)) pa_nil)))))))))
      (pss_cons (ps_for PassesOwn.never rfl (pi_range1 (by rfl) W.n_range (pa_cons (pe_callB call_lenU (by rfl) W.n_len bb_len (pa_cons (pv 1) pa_nil)) pa_nil)) (pg_name (i := 3) sc__law_space.nd rfl (by first | exact Or.inl rfl | exact Or.inr rfl)) (pss_one (ps_if (pt_cmpR op_ltU (pv 3) pe_int (by first | exact nomark _ | rfl)) (pss_one (ps_expr (pe_meth (pv 2) W.C_Space W.m_Space_set_root (ok_Space_set_root W) (hr.mono (by decide)) W.b_Space_set_root .nil pass0 (pa_cons (pv 3) (pa_cons (pe_ix (ix_U hu1) (pv 1) (pv 3) (fun _ _ => rfl)) pa_nil))))) (pss_one (ps_expr (pe_meth (pv 2) W.C_Space W.m_Space_hold (ok_Space_hold W) (hr.mono (by decide)) W.b_Space_hold .nil pass0 (pa_cons (pe_ix (ix_U hu1) (pv 1) (pv 3) (fun _ _ => rfl)) pa_nil)))))))
      (pss_one (ps_ret (pv 2))))))), ?_⟩
  refine z_start (σ := [some _, some _, none, none, none]) rfl ?_
  one_sign
  intro sp dxs hsp hdx ndx
  have hx0 : upd H dxs (.own sp) sp = none := by rw [upd_ne ndx.symm]; exact hsp
  have f0 : Fr [] H (upd (upd H dxs (.own sp)) sp (.ins W.c_Space dxs [])) := (Fr.new hdx).trans (Fr.new hx0)
  refine ⟨sp, dxs, 100000, 100000, rfl, upd_same, fun H1 st dx wl pl pr rt hd S T N old fresh => ⟨rfl, ?_⟩⟩
  have f1 : Fr [] H H1 := fun b o e _ => old b o (f0.g0 e) (ne_of_none e hsp)
  have nX : ∀ q ∈ [sp, st, wl, pl, rt, hd], H q = none := fun q hq => by
    simp only [List.mem_cons, List.not_mem_nil, or_false] at hq
    rcases hq with e | e | e | e | e | e <;> subst e
    · exact hsp
    all_goals exact f0.none (fresh _ (by simp))
  clear old fresh f0 hx0
  have ss1 : SS W.c_Store W.c_Space W.PT_Store_close_up H1 sp dxs st dx wl pl pr rt hd 0 0 0 [] [] (List.replicate 16 0) [] := ⟨S, T, N, Good.empty, by simp, by simp, by simp, by simp, (by show 0 ≤ 5000; decide), by simp, by simp, tab.ext fun b o e => f1.g0 e⟩
  clear S T
  have hra1 := f1.g0 hra
  one_sign
  rw [List.length_map, L.len]
  refine z_rng1 R.length rfl (by omega) ?_
  refine for_range (lo := 0) (n := R.length) (fun i σ H' => ∃ (v3 v4 : Option V) (al least : Int) (O : List Ob) (kvs : List (Key × V)), σ = [some (.ref ra), some (.ref wa), some (.ref sp), v3, v4] ∧ SS W.c_Store W.c_Space W.PT_Store_close_up H' sp dxs st dx wl pl pr rt hd al 0 least O kvs (List.replicate 16 0) [] ∧ O.length = i ∧ Fil R O 0 0 ∧ Fr [] H H')
    ⟨_, _, _, _, [], [], rfl, ss1, rfl, ⟨fun i o h => by simp at h, fun i o h => by simp at h⟩, f1⟩ (fun i σ H2 hi hI => ?_) (fun σ H2 hI => ?_)
  · obtain ⟨v3, v4, al, least, O, kvs, rfl, ss, hO, fil, f2⟩ := hI
    obtain ⟨a, hA⟩ : ∃ a, A[i]? = some a := ⟨_, List.getElem?_eq_getElem (by rw [L.len]; exact hi)⟩
    obtain ⟨r, hRi⟩ : ∃ r, R[i]? = some r := ⟨_, List.getElem?_eq_getElem hi⟩
    have ha := f2.g0 (L.it i a r hA hRi)
    obtain ⟨l1, l2⟩ := hR2 r (List.mem_of_getElem? hRi)
    obtain ⟨x, hr0⟩ : ∃ x, r[0]? = some x := ⟨_, List.getElem?_eq_getElem (by omega)⟩
    have hra2 := f2.g0 hra
    one_sign
    refine z_meth1 ss.S.sp rfl ?_
    one_sign
    refine z_ixL hra2 (by rw [Int.zero_add]; exact atI_nat (ref_at hA)) ?_
    one_sign
    refine z_ixL ha (atI_nat (j := 0) (int_at hr0)) ?_
    one_sign
    refine z_ixL hra2 (by rw [Int.zero_add]; exact atI_nat (ref_at hA)) ?_
    one_sign
    obtain ⟨z, hz⟩ : ∃ z, r.length = z + 1 := ⟨r.length - 1, by omega⟩
    have hfl := ss.flen
    refine ⟨sp, dxs, st, pr, rt, hd, al, 0, _, _, dx, wl, pl, 100000, 100000, least, flat O, kvs, x, z, by rw [List.length_map, hz, show ((z + 1 : Nat) : Int) - 1 = (z : Int) by omega]; rfl, ss.S, ss.T, ss.N, ss.G.seen, by omega, by omega, by omega, by omega, fun m H3 S3 T3 f3 hs3 hm3 => ?_⟩
    have f3' : Fr [] H H3 := f2.inF f3 (fun q hq => nX q (by simp only [List.mem_cons, List.not_mem_nil, or_false] at hq ⊢; rcases hq with e | e | e | e <;> simp [e]))
    have ss3 := ss.add (by omega) (by omega) (by have := flat_len (O := O) fun o ho => Nat.le_trans (ss.sz o ho) (by decide); omega) S3 T3 f3 hs3 hm3
    have em : m = (i : Int) := by
      have iffL := fun n => (ss.G.iff n).trans (fil.ix.live ss.lv n)
      have h1 : ¬ (m < (O.length : Int)) := fun h => by
        have := (iffL m).mpr ⟨hs3.1, h⟩
        rw [hm3] at this
        cases this
      have h2 : ¬ ((O.length : Int) < m) := fun h => by
        have := (iffL (O.length : Int)).mp (hs3.2 (O.length : Int) (by omega) h)
        omega
      omega
    one_sign
    refine ⟨_, _, rfl, ?_⟩
    one_sign
    rw [decide_eq_true (by omega : m = 0 + (i : Int))]
    one_sign
    refine ⟨_, _, al + 1, m, _, _, rfl, ss3, by rw [List.length_append, hO]; rfl, ⟨fun j o hj => ?_, fun j o hj => ?_⟩, f3'⟩
    · rcases get_snoc hj with hj | ⟨e1, e2⟩
      · exact fil.ix j o hj
      · rw [e2]; show m = (j : Int); omega
    · rcases get_snoc hj with hj | ⟨e1, e2⟩
      · exact fil.it j o hj
      · rw [e2]
        exact ⟨r, by rw [e1, hO]; exact hRi, hr0, by show (List.replicate z (0 : Int)).length + 1 = r.length; rw [List.length_replicate, hz], fun b h => by omega⟩
  obtain ⟨v3, v4, al, least, O, kvs, rfl, ss, hO, fil, f2⟩ := hI
  have hra2 := f2.g0 hra
  one_sign
  rw [List.length_map, L.len]
  refine z_rng1 R.length rfl (by omega) ?_
  refine for_range (lo := 0) (n := R.length) (fun i σ H' => ∃ (v3 v4 : Option V) (O : List Ob), σ = [some (.ref ra), some (.ref wa), some (.ref sp), v3, v4] ∧ SS W.c_Store W.c_Space W.PT_Store_close_up H' sp dxs st dx wl pl pr rt hd al 0 least O kvs (List.replicate 16 0) [] ∧ O.length = R.length ∧ Fil R O i 0 ∧ Fr [] H H')
    ⟨_, _, _, rfl, ss, hO, fil, f2⟩ (fun i σ H2 hi hI => ?_) (fun σ H3 hI => ?_)
  · obtain ⟨v3, v4, O, rfl, ss, hO, fil, f2⟩ := hI
    obtain ⟨a, hA⟩ : ∃ a, A[i]? = some a := ⟨_, List.getElem?_eq_getElem (by rw [L.len]; exact hi)⟩
    obtain ⟨r, hRi⟩ : ∃ r, R[i]? = some r := ⟨_, List.getElem?_eq_getElem hi⟩
    have ha := f2.g0 (L.it i a r hA hRi)
    obtain ⟨l1, l2⟩ := hR2 r (List.mem_of_getElem? hRi)
    have hra2 := f2.g0 hra
    one_sign
    refine z_ixL hra2 (by rw [Int.zero_add]; exact atI_nat (ref_at hA)) ?_
    one_sign
    rw [List.length_map]
    obtain ⟨z, hz⟩ : ∃ z, r.length = z + 1 := ⟨r.length - 1, by omega⟩
    refine z_rng1 z (by omega) (by omega) ?_
    refine for_range (lo := 0) (n := z) (fun j σ H' => ∃ (v4 : Option V) (O : List Ob), σ = [some (.ref ra), some (.ref wa), some (.ref sp), some (.int (0 + (i : Int))), v4] ∧ SS W.c_Store W.c_Space W.PT_Store_close_up H' sp dxs st dx wl pl pr rt hd al 0 least O kvs (List.replicate 16 0) [] ∧ O.length = R.length ∧ Fil R O i j ∧ Fr [] H H')
      ⟨_, _, rfl, ss, hO, fil, f2⟩ (fun j σ H3 hj hI => ?_) (fun σ H3 hI => ?_)
    · obtain ⟨v4, O, rfl, ss, hO, fil, f3⟩ := hI
      have hra3 := f3.g0 hra
      have ha3 := f3.g0 (L.it i a r hA hRi)
      have T3 := ss.T
      have hst := ss.T.st
      have hsp3 := ss.S.sp
      obtain ⟨x, hx⟩ : ∃ x, r[j + 1]? = some x := ⟨_, List.getElem?_eq_getElem (by omega)⟩
      obtain ⟨o, ho⟩ : ∃ o, O[i]? = some o := ⟨_, List.getElem?_eq_getElem (by omega)⟩
      one_sign
      refine z_ixL hra3 (by rw [Int.zero_add]; exact atI_nat (ref_at hA)) ?_
      one_sign
      refine z_ixL ha3 (by rw [Int.zero_add]; exact atI_nat (j := j + 1) (int_at hx)) ?_
      one_sign
      obtain ⟨r', hr', h0, hl, hb⟩ := fil.it i o ho
      rw [hRi] at hr'
      cases hr'
      have hol := off_lt ho
      have hlo := ss.lv o (List.mem_of_getElem? ho)
      have hno := fil.ix i o ho
      refine ⟨st, dx, wl, pl, _, _, least, _, kvs, (i : Int), off O i, j, x, by rw [Int.zero_add, Int.zero_add]; rfl, T3, by rw [← hno]; exact ss.G.at ho hlo, by omega, ?_⟩
      rw [set_slot x ho (by omega)]
      one_sign
      have ss' := ss.change (o' := { o with sl := o.sl.set j x }) ho rfl rfl (by show (o.sl.set j x).length = _; rw [List.length_set]) (Fr.at (H := H3) (q := wl) (o := .lst ((flat (O.set i { o with sl := o.sl.set j x })).map V.int)) (by simp)) upd_same
      exact ⟨_, _, rfl, ss', by rw [List.length_set]; exact hO, fil.put ho hRi hx, f3.inF (Fr.at (F := [wl]) (by simp)) (fun q hq => nX q (by simp at hq; simp [hq]))⟩
    · obtain ⟨v4, O, rfl, ss, hO, fil, f3⟩ := hI
      one_sign
      exact ⟨_, _, O, rfl, ss, hO, fil.next hRi (by omega), f3⟩
  obtain ⟨v3, v4, O, rfl, ss, hO, fil, f3⟩ := hI
  have hrow := fil.row (by omega) hO
  have hidx := fil.ix
  have hwa3 := f3.g0 hwa
  one_sign
  rw [List.length_map]
  refine z_rng1 ws.length rfl (by omega) ?_
  refine for_range (lo := 0) (n := ws.length) (fun i σ H' => ∃ (v3 v4 : Option V) (rs hs : List Int), σ = [some (.ref ra), some (.ref wa), some (.ref sp), v3, v4] ∧ SS W.c_Store W.c_Space W.PT_Store_close_up H' sp dxs st dx wl pl pr rt hd al 0 least O kvs rs hs ∧ (i ≤ 16 → hs = [] ∧ rs.take i = ws.take i) ∧ (16 ≤ i → rs ++ hs = ws.take i) ∧ Fr [] H H')
    ⟨_, _, _, [], rfl, ss, fun _ => ⟨rfl, rfl⟩, fun h => by omega, f3⟩ (fun i σ H4 hi hI => ?_) (fun σ H4 hI => ?_)
  · obtain ⟨v3, v4, rs, hs, rfl, ss, h1, h2, f4⟩ := hI
    have hwa4 := f4.g0 hwa
    obtain ⟨x, hx⟩ : ∃ x, ws[i]? = some x := ⟨_, List.getElem?_eq_getElem hi⟩
    have hsp4 := ss.S.sp
    one_sign
    have rl := ss.rl
    refine iteD (fun h => ?_) (fun h => ?_)
    · have h : 0 + (i : Int) < 16 := h
      one_sign
      refine z_ixL hwa4 (by rw [Int.zero_add]; exact atI_nat (int_at hx)) ?_
      one_sign
      refine ⟨sp, dxs, st, pr, rt, hd, al, 0, rs, hs, i, x, by rw [Int.zero_add]; rfl, ss.S, by omega, ?_⟩
      one_sign
      have ss' := ss.root (rs' := rs.set i x) (by rw [List.length_set]) (Fr.at (H := H4) (q := rt) (o := .lst ((rs.set i x).map V.int)) (by simp)) upd_same
      obtain ⟨e1, e2⟩ := h1 (by omega)
      have e3 : (rs.set i x).take (i + 1) = ws.take (i + 1) := by
        rw [List.take_succ, List.take_succ, List.take_set_of_le (Nat.le_refl _), e2, List.getElem?_set_self (by omega), hx]
      refine ⟨_, _, _, hs, rfl, ss', fun _ => ⟨e1, e3⟩, fun h16 => ?_, f4.inF (Fr.at (F := [rt]) (by simp)) (fun q hq => nX q (by simp at hq; simp [hq]))⟩
      rw [e1, List.append_nil, ← e3]
      exact (List.take_of_length_le (by rw [List.length_set]; omega)).symm
    · have h : ¬ 0 + (i : Int) < 16 := h
      one_sign
      refine z_ixL hwa4 (by rw [Int.zero_add]; exact atI_nat (int_at hx)) ?_
      one_sign
      have e2 := h2 (by omega)
      have hh : hs.length + 16 = i := by
        have := congrArg List.length e2
        rw [List.length_append, List.length_take] at this
        omega
      refine ⟨sp, dxs, st, pr, rt, hd, al, 0, rs, hs, x, rfl, ss.S, by have := ss.hl; omega, ?_⟩
      one_sign
      have ss' := ss.held (hs' := hs ++ [x]) (by rw [List.length_append]; show hs.length + 1 ≤ 12; omega) (Fr.at (H := H4) (q := hd) (o := .lst ((hs ++ [x]).map V.int)) (by simp)) upd_same
      refine ⟨_, _, _, _, rfl, ss', fun h => by omega, fun _ => ?_, f4.inF (Fr.at (F := [hd]) (by simp)) (fun q hq => nX q (by simp at hq; simp [hq]))⟩
      rw [← List.append_assoc, e2, List.take_succ, hx]
      rfl
  · obtain ⟨v3, v4, rs, hs, rfl, ss, h1, h2, f4⟩ := hI
    one_sign
    exact k sp _ O rs hs H4 ⟨_, _, _, _, _, _, _, _, _, _, _, _, rfl, ss⟩ (by rw [h2 h16, List.take_length]) hrow hidx nX f4
end

end LX
namespace LX
open PySem PySem.Spec PyProof.Rows L2 NdefX
/-- tuples stay -/
def TP (H H' : Hp) : Prop := ∀ a xs, H a = some (.tup xs) → H' a = some (.tup xs)
theorem TP.trans {H H1 H2 : Hp} (f : TP H H1) (g : TP H1 H2) : TP H H2 := fun a xs e => g a xs (f a xs e)
theorem Fr.tp {H H' : Hp} (f : Fr [] H H') : TP H H' := fun _ _ e => f.g0 e
theorem Fr.tp1 {H H' : Hp} {q : Addr} {o : HO} (f : Fr [q] H H') (h : H q = some o) (hn : ∀ xs, o ≠ .tup xs) : TP H H' := fun a xs e => f.g e (nin (ne_of e h (fun z => hn xs z.symm)))
abbrev Wti : Type := Addr × Addr × List Int × Int
def wtL (W : List Wti) : List V := W.map fun x => V.ref x.1
def WtI (H : Hp) (W : List Wti) : Prop := ∀ x ∈ W, H x.1 = some (.tup [.ref x.2.1, .int x.2.2.2]) ∧ H x.2.1 = some (.tup (x.2.2.1.map V.int))
theorem WtI.mono {H H' : Hp} {W : List Wti} (h : WtI H W) (t : TP H H') : WtI H' W := fun x hx => ⟨t _ _ (h x hx).1, t _ _ (h x hx).2⟩
theorem WtI.app {H : Hp} {W W' : List Wti} (h : WtI H W) (h' : WtI H W') : WtI H (W ++ W') := fun x hx => (List.mem_append.mp hx).elim (h x) (h' x)
section
variable {P : Program} {w : World} {K : PySem.W.Frag} {mg : Str → Option Value} {base : Heap}
end

end LX
namespace LX
open PySem PySem.Spec PyProof.Rows L2 NdefX
theorem SS.nd {C CS PT : Addr} {H : Hp} {sp dxs st dx wl pl pr rt hd : Addr} {al co least : Int} {O : List Ob} {kvs : List (Key × V)} {rs hs : List Int} (s : SS C CS PT H sp dxs st dx wl pl pr rt hd al co least O kvs rs hs) : (O.map (·.num)).Nodup := by
  have := s.G.nums
  rw [List.filter_eq_self.mpr s.lv] at this
  exact this
section
variable {P : Program} {w : World} {K : PySem.W.Frag} {mg : Str → Option Value} {base : Heap}
end

end LX
namespace LX
open PySem PySem.Spec PyProof.Rows L2 NdefX
set_option hygiene false in
local macro_rules | `(tactic| k_memK) => `(tactic| first | exact W.na_Store_room | exact W.na_Store_entries | exact W.na_Store_words | exact W.na_Store__places | exact W.na_Store__least | exact W.na_Space_store | exact W.na_Space_pressure | exact W.na_Space_always | exact W.na_Space_allocations | exact W.na_Space_collections | exact W.na_Space__roots | exact W.na_Space__held | exact W.na_Space__saved)
set_option hygiene false in
local macro_rules | `(tactic| k_ownIn) => `(tactic| first | exact W.C_Store | exact W.C_Space)
local macro_rules | `(tactic| none_booked) => `(tactic| first | assumption | (refine Fr.g0 (by assumption) ?_; none_booked))
local macro_rules | `(tactic| one_sign) => `(tactic| repeat (first
  | refine Stp.h ?_
  | ((with_reducible refine' z_fld1 ?k0 ?k1 ?k2 ?k3 ?_); (case k0 => none_booked); (case k1 => k_ownIn); (case k2 => k_memK); (case k3 => rfl))
  | ((with_reducible refine' z_meth1 ?k0 ?k1 ?_); (case k0 => none_booked); (case k1 => rfl))
  | ((with_reducible refine' z_bmL ?k0 ?_); (case k0 => none_booked))
  | ((with_reducible refine' z_lenL ?k0 ?_); (case k0 => none_booked))
  | ((with_reducible refine' z_lenT ?k0 ?_); (case k0 => none_booked))
  | ((with_reducible refine' z_lenD ?k0 ?_); (case k0 => none_booked))
  | ((with_reducible refine' z_truL ?k0 ?_); (case k0 => none_booked))
  | ((with_reducible refine' z_truD ?k0 ?_); (case k0 => none_booked))
  | ((with_reducible refine' z_truT ?k0 ?_); (case k0 => none_booked))
  | ((with_reducible refine' z_inDIP ?k0 ?_); (case k0 => none_booked))
  | ((with_reducible refine' z_inDIN ?k0 ?_); (case k0 => none_booked))
  | ((with_reducible refine' z_inDfP ?k0 ?_); (case k0 => none_booked))
  | ((with_reducible refine' z_inDfN ?k0 ?_); (case k0 => none_booked))
  | ((with_reducible refine' z_iList1 ?k0 ?_); (case k0 => none_booked))
  | ((with_reducible refine' z_isi0 ?k0 ?k1 ?k2 ?_); (case k0 => exact (ClsV.ty _)); (case k1 => exact (TyX.base (TyOf.lst (by none_booked)))); (case k2 => first | exact kt_list_int | exact kt_list_bool | exact kt_list_str | exact kt_list_list | exact kt_list_tuple | exact kt_list_dict))
  | ((with_reducible refine' z_rI ?k0 ?_); (case k0 => first | exact (by decide : (0 : Int) < _) | exact ⟨by decide, by decide⟩ | exact ⟨by decide, by decide, by decide⟩ | (show (0 : Int) < _; omega)))
  | ((with_reducible refine' z_mulI ?k0 ?_); (case k0 => first | exact Or.inr ⟨by decide, by decide⟩ | exact Or.inl ⟨by decide, by decide⟩ | exact Or.inl ⟨by omega, by omega⟩ | exact Or.inr ⟨by omega, by omega⟩))))
local macro_rules | `(tactic| leaf_len) => `(tactic| (simp only [wipe, List.map_cons, List.map_nil, List.set_cons_zero, List.set_cons_succ]; one_sign; refine z_ok rfl ?_; one_sign))
theorem Srch.mem {O : List Ob} {rs F Wt Wt' : List Int} {p : Option (Int × List Int)} (S : Srch O rs F Wt p) (h : ∀ x, x ∈ Wt ↔ x ∈ Wt') : Srch O rs F Wt' p :=
  ⟨S.nd, S.fr, fun n hn => S.wr n ((h n).mpr hn), fun w a b c => (S.root w a b c).imp id (h _).mp, fun m hm i o a b c w hw e l => (S.clos m hm i o a b c w hw e l).imp id (h _).mp⟩
/-- n is told by a word of the roots, or of a thing in L -/
def Par (O : List Ob) (r0 L : List Int) (n : Int) : Prop := ∃ w : Int, w % 2 = 0 ∧ w / 2 = n ∧ (w ∈ r0 ∨ ∃ m ∈ L, ∃ o ∈ O, o.live = true ∧ o.num = m ∧ w ∈ rowOf o)
/-- all that is reached, in an order in which each is told by the roots or by one before -/
structure Ordr (O : List Ob) (r0 F : List Int) : Prop where
  nd : F.Nodup
  re : ∀ n, n ∈ F ↔ Reach O r0 n
  par : ∀ (i : Nat) (n : Int), F[i]? = some n → Par O r0 (F.take i) n
structure Bfs (O : List Ob) (r0 F ws : List Int) : Prop where
  sr : Srch O r0 F (refs ws) none
  par : ∀ (i : Nat) (n : Int), F[i]? = some n → Par O r0 (F.take i) n
  wp : ∀ w ∈ ws, w ∈ r0 ∨ ∃ m ∈ F, ∃ o ∈ O, o.live = true ∧ o.num = m ∧ w ∈ rowOf o
theorem Bfs.start (O : List Ob) (r0 : List Int) : Bfs O r0 [] r0 := ⟨.start O r0, fun i n h => by simp at h, fun w h => .inl h⟩
theorem Bfs.done {O : List Ob} {r0 F : List Int} (b : Bfs O r0 F []) : Ordr O r0 F := ⟨b.sr.nd, fun n => b.sr.done n, b.par⟩
theorem refs_cons (w : Int) (ws : List Int) : refs (w :: ws) = if w % 2 = 0 then (w / 2) :: refs ws else refs ws := by
  unfold refs
  by_cases e : w % 2 = 0
  · rw [if_pos e, List.filter_cons_of_pos (by simpa using e)]; rfl
  · rw [if_neg e, List.filter_cons_of_neg (by simpa using e)]
theorem refs_app' (a b : List Int) : refs (a ++ b) = refs a ++ refs b := by unfold refs; rw [List.filter_append, List.map_append]
theorem Bfs.skip {O : List Ob} {r0 F ws : List Int} {w : Int} (b : Bfs O r0 F (w :: ws)) (h : w % 2 = 0 → Live O (w / 2) → w / 2 ∈ F) : Bfs O r0 F ws := by
  refine ⟨?_, b.par, fun x hx => b.wp x (List.mem_cons_of_mem _ hx)⟩
  have sr := b.sr
  rw [refs_cons] at sr
  by_cases e : w % 2 = 0
  · rw [if_pos e] at sr
    have sr : Srch O r0 F (refs ws ++ [w / 2]) none := sr.mem fun x => by simp [or_comm]
    refine sr.pop ?_
    by_cases hl : Live O (w / 2)
    · exact .inl (h e hl)
    · exact .inr hl
  · rw [if_neg e] at sr; exact sr
theorem Bfs.find {O : List Ob} {r0 F ws : List Int} {w : Int} {i : Nat} {o : Ob} (b : Bfs O r0 F (w :: ws)) (e : w % 2 = 0) (ho : O[i]? = some o) (hl : o.live = true) (hn : o.num = w / 2) (hF : w / 2 ∉ F)
    (U : ∀ (j : Nat) (p : Ob), O[j]? = some p → p.live = true → p.num = o.num → p = o) : Bfs O r0 (F ++ [o.num]) (ws ++ rowOf o) := by
  have sr := b.sr
  rw [refs_cons, if_pos e] at sr
  have sr : Srch O r0 F (refs ws ++ [w / 2]) none := sr.mem fun x => by simp [or_comm]
  have lv : Live O (w / 2) := ⟨i, o, ho, hl, hn⟩
  have s2 := sr.find hF lv
  rw [← hn] at s2
  have hr : Reach O r0 o.num := s2.fr _ (by simp)
  have s3 := (s2.words ho hl rfl hr).all (i := i) U
  refine ⟨by rw [refs_app']; exact s3, fun j n hj => ?_, fun x hx => ?_⟩
  · rcases get_snoc hj with h | ⟨h1, h2⟩
    · have := (List.getElem?_eq_some_iff.mp h).1
      rw [List.take_append_of_le_length (by omega)]
      exact b.par j n h
    · subst h1 h2
      rw [List.take_append_of_le_length (Nat.le_refl _), List.take_length]
      exact ⟨w, e, hn.symm, b.wp w List.mem_cons_self⟩
  · rcases List.mem_append.mp hx with h | h
    · rcases b.wp x (List.mem_cons_of_mem _ h) with h | ⟨m, hm, z⟩
      · exact .inl h
      · exact .inr ⟨m, List.mem_append_left _ hm, z⟩
    · exact .inr ⟨o.num, by simp, o, List.mem_of_getElem? ho, hl, rfl, h⟩
theorem Bfs.len {O : List Ob} {r0 F ws : List Int} (b : Bfs O r0 F ws) : F.length ≤ O.length := live_len b.sr.nd fun n hn => (b.sr.fr n hn).live
def wtW (W : List Wti) : List Int := W.map (·.2.2.2)
def fK (F : List (Int × Addr)) : List (Key × V) := F.map fun x => (.inl x.1, .ref x.2)
theorem fK_fst (F : List (Int × Addr)) : (fK F).map (·.1) = (F.map (·.1)).map Sum.inl := by unfold fK; rw [List.map_map, List.map_map]; rfl
theorem fK_some (F : List (Int × Addr)) (n : Int) : (valV (fK F) (.inl n)).isSome = decide (n ∈ F.map (·.1)) := by
  by_cases h : n ∈ F.map (·.1)
  · rw [decide_eq_true h]
    have : (Sum.inl n : Key) ∈ (fK F).map (·.1) := by rw [fK_fst]; exact List.mem_map.mpr ⟨n, h, rfl⟩
    obtain ⟨v, hv⟩ := mem_val this
    rw [hv]; rfl
  · rw [decide_eq_false h]
    cases e : valV (fK F) (.inl n) with
    | none => rfl
    | some v =>
      have : (Sum.inl n : Key) ∈ (fK F).map (·.1) := List.mem_map.mpr ⟨_, val_mem e, rfl⟩
      rw [fK_fst] at this
      obtain ⟨m, hm, e⟩ := List.mem_map.mp this
      cases e
      exact absurd hm h
theorem fK_put {F : List (Int × Addr)} {n : Int} {a : Addr} (h : n ∉ F.map (·.1)) : putK (fK F) (.inl n) (.ref a) = fK (F ++ [(n, a)]) := by
  rw [putK_new _ (by
    have := fK_some F n
    rw [decide_eq_false h] at this
    exact Option.isNone_iff_eq_none.mp (by cases e : valV (fK F) (.inl n) with
      | none => rfl
      | some v => rw [e] at this; cases this))]
  unfold fK
  rw [List.map_append]
  rfl
theorem SS.un {C CS PT : Addr} {H : Hp} {sp dxs st dx wl pl pr rt hd : Addr} {al co least : Int} {O : List Ob} {kvs : List (Key × V)} {rs hs : List Int} (s : SS C CS PT H sp dxs st dx wl pl pr rt hd al co least O kvs rs hs) {i j : Nat} {o p : Ob} (h1 : O[i]? = some o) (h2 : O[j]? = some p) (e : o.num = p.num) : o = p := by
  have h3 := s.G.at h1 (s.lv o (List.mem_of_getElem? h1))
  have h4 := s.G.at h2 (s.lv p (List.mem_of_getElem? h2))
  have nd := s.nd
  have hi := (List.getElem?_eq_some_iff.mp h1).1
  have : i = j := by
    refine (List.getElem?_inj (l := O.map (·.num)) (by rw [List.length_map]; exact hi) nd).mp ?_
    rw [List.getElem?_map, List.getElem?_map, h1, h2]
    show some o.num = some p.num
    rw [e]
  subst this
  rw [h1] at h2
  exact Option.some.inj h2
section
variable {P : Program} {w : World} {K : PySem.W.Frag} {mg : Str → Option Value} {base : Heap}
def sp_paths (C CS PT : Addr) : Sp := fun vs H Q _ => ∃ sp X O rs hs, vs = [.ref sp] ∧ Spc C CS PT H sp X O rs hs ∧
  ∀ D F (FD : List (Int × Addr)) H', H D = none → H' D = some (.dK (fK FD)) → FD.map (·.1) = F → Ordr O (0 :: (rs ++ hs)) F → Fr [] H H' → Q (.ref D) H'
theorem ok_paths (W : WT P K mg base) : FnOk P w K mg base CX0 4 W.f_paths W.fd_paths ["space"] (sp_paths W.c_Store W.c_Space W.PT_Store_close_up) := by
  refine W.F_paths.ok sc_paths (fun vs H Q E h => by obtain ⟨sp, X, O, rs, hs, rfl, S0, k⟩ := h; rfl) (fun cdv A outer s H vs Q E hr h => ?_)
  obtain ⟨sp, X, O, rs, hs, rfl, S0, k⟩ := h
  have hu1 := hu_of hr
  have hu64 := hu64_of hr
  refine ⟨_, (pss_cons (ps_set (i := 1) sc_paths.nd rfl (by first | exact Or.inl rfl | exact Or.inr rfl) pe_dnewK)
      (pss_cons (ps_set (i := 2) sc_paths.nd rfl (by first | exact Or.inl rfl | exact Or.inr rfl) (pe_meth0 (pv 0) W.C_Space W.m_Space_all_roots (ok_Space_all_roots W) (hr.mono (by decide)) W.b_Space_all_roots .nil pass0 ))
      (pss_cons (ps_setLc (i := 3) (own := [("k", 4)]) (g := gName 4) (tt := tYes) rfl sc_paths.nd rfl rfl (sw_true rfl rfl rfl (by decide +kernel)) (pi_range1 (by rfl) W.n_range (pa_cons (pe_callB call_lenU (by rfl) W.n_len bb_len (pa_cons (pv 2) pa_nil)) pa_nil)) (blkOk_by (N := N_paths) (sc := defScope s_paths) (by first | decide +kernel | rfl)) (fun _ _ _ _ _ => (pg_name (i := 4) sc_paths.nd rfl (by first | exact Or.inl rfl | exact Or.inr rfl))) (fun _ _ _ _ _ => pts_nil) (fun _ _ _ _ _ => (pe_tup (pa_cons (pe_tup (pa_cons (pv 4) pa_nil)) (pa_cons (pe_ix (ix_UK (K := K) rfl (by exact hu1)) (pv 2) (pv 4) (fun _ _ => rfl)) pa_nil)))))
      (pss_cons (ps_while PassesOwn.never (pt_truth (pv 3) (by intro _; rfl)) (pss_cons (ps_set (i := 5) sc_paths.nd rfl (by first | exact Or.inl rfl | exact Or.inr rfl) (pe_lst pa_nil))
      (pss_cons (ps_for PassesOwn.never rfl (pi_list (pv 3)) (pg_tup rfl (pgs_cons (pg_name (i := 6) sc_paths.nd rfl (by first | exact Or.inl rfl | exact Or.inr rfl)) (pgs_cons (pg_name (i := 7) sc_paths.nd rfl (by first | exact Or.inl rfl | exact Or.inr rfl)) pgs_nil))) (pss_cons (ps_set (i := 8) sc_paths.nd rfl (by first | exact Or.inl rfl | exact Or.inr rfl) (pe_call (ok_object_of W) (hr.mono (by decide)) rfl W.g_object_of W.F_object_of.kp W.b_object_of .nil pass0 (pa_cons (pv 0) (pa_cons (pv 7) pa_nil))))
      (pss_one (ps_if (PW.pt (pw_and (pt_cmpR op_isnotU (pv 8) pe_non (by first | exact nomark _ | rfl)) (pw_and1 (pt_cmpR (op_ninU hu1) (pv 8) (pv 1) (by first | exact nomark _ | rfl))))) (pss_cons (ps_dput hu1 (pv 1) (pv 8) (pv 6) rfl)
      (pss_cons (ps_set (i := 9) sc_paths.nd rfl (by first | exact Or.inl rfl | exact Or.inr rfl) (pe_call (ok_row_of W) (hr.mono (by decide)) rfl W.g_row_of W.F_row_of.kp W.b_row_of .nil pass0 (pa_cons (pv 0) (pa_cons (pv 8) pa_nil))))
      (pss_one (ps_expr (pe_bm PySem.F.plainAttrs_list PySem.F.slot_list_extend PySem.F.type_list_extend mt_extend (pv 5) (pa_cons (pe_lc (own := [("k", 4)]) (g := gName 4) (tt := tYes) rfl sc_paths.nd (pi_range1 (by rfl) W.n_range (pa_cons (pe_callB call_lenU (by rfl) W.n_len bb_len (pa_cons (pv 9) pa_nil)) pa_nil)) (blkOk_by (N := N_paths) (sc := defScope s_paths) (by first | decide +kernel | rfl)) (fun _ _ _ _ _ => (pg_name (i := 4) sc_paths.nd rfl (by first | exact Or.inl rfl | exact Or.inr rfl))) (fun _ _ _ _ _ => pts_nil) (fun _ _ _ _ _ => (pe_tup (pa_cons (pe_op (op_addUK (K := K) rfl) (pv 6) (pe_tup (pa_cons (pv 4) pa_nil))) (pa_cons (pe_ix (ix_UK (K := K) rfl (by exact hu1)) (pv 9) (pv 4) (fun _ _ => rfl)) pa_nil))))) pa_nil)))))) pss_nil))))
      (pss_one (ps_set (i := 3) sc_paths.nd rfl (by first | exact Or.inl rfl | exact Or.inr rfl) (pv 5))))))
      (pss_one (ps_ret (pv 1))))))), ?_⟩
  refine z_start (σ := [some _, none, none, none, none, none, none, none, none, none]) rfl ?_
  one_sign
  obtain ⟨dxs, st, dx, wl, pl, pr, rt, hd, al, co, least, kvs, rfl, ss⟩ := S0
  intro D H1 hD f1 D1
  have ss1 := ss.keep f1
  have hsp := ss1.S.sp
  one_sign
  refine ⟨sp, dxs, st, pr, rt, hd, al, co, rs, hs, rfl, ss1.S, by have := ss.rl; omega, by have := ss.hl; omega, fun ra H2 hra hra0 f2 => ?_⟩
  have hr0l : (0 :: (rs ++ hs)).length ≤ 30 := by rw [List.length_cons, List.length_append]; have := ss.rl; have := ss.hl; omega
  generalize hr0 : 0 :: (rs ++ hs) = r0 at hra k hr0l
  one_sign
  rw [List.length_map]
  refine z_rng1 r0.length rfl (by omega) ?_
  refine z_lcR (fun i xs H' => ∃ W : List Wti, xs = wtL W ∧ WtI H' W ∧ wtW W = r0.take i ∧ (∀ x ∈ W, x.2.2.1 ≠ [] ∧ x.2.2.1.length ≤ 1)) (fun _ _ _ _ => ⟨[], rfl, fun x hx => (by cases hx), rfl, fun x hx => (by cases hx)⟩) ?_ ?_
  · intro L i xs H3 hL hi hl hW hx f3
    obtain ⟨W, rfl, hI, hP, hN⟩ := hW
    obtain ⟨x, hxi⟩ : ∃ x, r0[i]? = some x := ⟨_, List.getElem?_eq_getElem hi⟩
    leaf_len
    refine z_newL (by show 1 ≤ sizeLine; decide) fun pa H4 hpa f4 p4 => ?_
    one_sign
    refine z_ixL (f4.g0 (f3.g0 hra)) (by rw [Int.zero_add]; exact atI_nat (int_at hxi)) ?_
    one_sign
    refine z_newL (by show 2 ≤ sizeLine; decide) fun a H5 ha f5 a5 => ?_
    refine z_lcY hL (f5.g0 (f4.g0 hx)) ((f3.trans f4).trans f5) hl (by rw [sizeLine_eq]; omega) fun H6 f6 _ _ => ?_
    have t6 : TP H5 H6 := f6.tp1 (f5.g0 (f4.g0 hx)) (by intro _ z; cases z)
    refine ⟨W ++ [(a, pa, [(i : Int)], x)], by unfold wtL; rw [List.map_append]; rfl, ((hI.mono (f4.trans f5).tp).app (fun y hy => ?_)).mono t6, ?_, fun y hy => ?_⟩
    · rw [List.mem_singleton.mp hy]
      refine ⟨a5, ?_⟩
      have := f5.g0 p4
      rw [Int.zero_add] at this
      exact this
    · unfold wtW at hP ⊢
      rw [List.map_append, hP, List.take_succ, hxi]; rfl
    · rcases List.mem_append.mp hy with h | h
      · exact hN y h
      · rw [List.mem_singleton.mp h]; exact ⟨by simp, Nat.le_refl _⟩
  intro wA xs H3 hwA hW hl hw3 f3
  obtain ⟨W, rfl, hI, hP, hN⟩ := hW
  rw [List.take_length] at hP
  have D3 := f3.g0 (f2.g0 D1)
  have f13 := (f1.trans f2).trans f3
  one_sign
  refine ⟨fun m σ H' => ∃ (wA : Addr) (W : List Wti) (F : List (Int × Addr)) (v5 v6 v7 v8 v9 : Option V), σ = [some (.ref sp), some (.ref D), some (.ref ra), some (.ref wA), none, v5, v6, v7, v8, v9] ∧ H' D = some (.dK (fK F)) ∧ H' wA = some (.lst (wtL W)) ∧ WtI H' W ∧ Bfs O r0 (F.map (·.1)) (wtW W) ∧ (∀ x ∈ W, x.2.2.1 ≠ [] ∧ x.2.2.1.length ≤ F.length + 1) ∧ W.length ≤ 100000 ∧ Fr [] H H' ∧ m = (O.length - F.length) * 2 + W.length.min 1,
    ⟨_, wA, W, [], _, _, _, _, _, rfl, D3, hw3, hI, by rw [hP]; exact .start O r0, hN, by unfold wtL at hl; rw [List.length_map] at hl; omega, f13, rfl⟩, ?_⟩
  clear D3 f13 f3 hw3 hI hP hl hN
  rintro m σ H3 ⟨wA, W, F, v5, v6, v7, v8, v9, rfl, D3, hw3, hI, hB, hN, hWl, f3, rfl⟩
  one_sign
  by_cases hW : W = []
  · subst hW
    refine iteF ?_
    one_sign
    exact k D _ F H3 hD D3 rfl hB.done f3
  have hne : wtL W ≠ [] := fun e => hW (List.map_eq_nil_iff.mp e)
  have hW1 : 0 < W.length := List.length_pos_iff.mpr hW
  refine iteNE hne ?_
  refine ⟨_, fun _ _ z => z, ?_⟩
  one_sign
  refine z_newL (by show 0 ≤ sizeLine; decide) fun la H4 hla f4 l4 => ?_
  have hw4 := f4.g0 hw3
  one_sign
  have nlw : la ≠ wA := (ne_of_none hw3 hla).symm
  have hla0 : H la = none := f3.none hla
  refine for_list (K := K) (a := wA) (xs := wtL W) (fun j σ H' => ∃ (F' : List (Int × Addr)) (W' : List Wti) (v6 v7 v8 v9 : Option V), σ = [some (.ref sp), some (.ref D), some (.ref ra), some (.ref wA), none, some (.ref la), v6, v7, v8, v9] ∧ H' D = some (.dK (fK F')) ∧ Bfs O r0 (F'.map (·.1)) (wtW (W.drop j ++ W')) ∧ F.length ≤ F'.length ∧ (F'.length = F.length → W' = []) ∧ (∀ x ∈ W', x.2.2.1 ≠ [] ∧ x.2.2.1.length ≤ F'.length + 1) ∧ W'.length ≤ 70 * F'.length ∧ H' la = some (.lst (wtL W')) ∧ WtI H' W' ∧ H' wA = some (.lst (wtL W)) ∧ WtI H' W ∧ Fr [] H H')
    ⟨F, [], v6, v7, v8, v9, rfl, f4.g0 D3, by rw [List.drop_zero, List.append_nil]; exact hB, Nat.le_refl _, fun _ => rfl, fun x hx => (by cases hx), Nat.zero_le _, l4, fun x hx => (by cases hx), hw4, hI.mono f4.tp, f3.trans f4⟩ (fun j σ H' _ hI => ?_) (fun j x σ H5 hx hI => ?_) (fun σ H5 hI => ?_)
  · obtain ⟨F', W', v6, v7, v8, v9, _, _, _, _, _, _, _, _, _, h, _⟩ := hI
    exact SqL.of h
  · obtain ⟨F', W', v6, v7, v8, v9, rfl, D5, hB5, hFl, hFW, hN5, hWl5, l5, hI5, hw5, hIW, f5⟩ := hI
    unfold wtL at hx
    rw [List.getElem?_map] at hx
    obtain ⟨y, hy, rfl⟩ := Option.map_eq_some_iff.mp hx
    obtain ⟨y1, y2⟩ := hIW y (List.mem_of_getElem? hy)
    obtain ⟨hN1, hN2⟩ := hN y (List.mem_of_getElem? hy)
    have hdr : W.drop j = y :: W.drop (j + 1) := (List.drop_eq_getElem_cons (List.getElem?_eq_some_iff.mp hy).1).trans (by rw [(List.getElem?_eq_some_iff.mp hy).2])
    have hB5 : Bfs O r0 (F'.map (·.1)) (y.2.2.2 :: wtW (W.drop (j + 1) ++ W')) := by rw [hdr] at hB5; exact hB5
    have hF'l := hB5.len
    rw [List.length_map] at hF'l
    have hOl := ss.len
    refine z_gtup y1 rfl ?_
    one_sign
    have ss5 := ss.keep f5
    refine ⟨sp, dxs, st, pr, rt, hd, al, co, rs, hs, dx, wl, pl, _, _, least, O, kvs, y.2.2.2, rfl, ss5.S, ss5.T, ss5.G, fun he hlv => ?_, fun hno => ?_⟩
    · one_sign
      rw [fK_some]
      by_cases hm : y.2.2.2 / 2 ∈ F'.map (·.1)
      · rw [decide_eq_true hm]
        one_sign
        exact ⟨F', W', _, _, _, _, rfl, D5, hB5.skip fun _ _ => hm, hFl, hFW, hN5, hWl5, l5, hI5, hw5, hIW, f5⟩
      rw [decide_eq_false hm]
      one_sign
      refine z_dputI D5 (by unfold fK; rw [List.length_map, sizeLine_eq]; omega) fun H6 f6 D6 n6 => ?_
      rw [fK_put hm] at D6
      have t56 : TP H5 H6 := f6.tp1 D5 (by intro _ z; cases z)
      have f06 := f5.in f6 hD
      have ss6 := ss.keep f06
      have l6 := f6.g l5 (nin (ne_of l5 D5 (by intro z; cases z)))
      have w6 := f6.g hw5 (nin (ne_of hw5 D5 (by intro z; cases z)))
      obtain ⟨jj, o, ho, hlo, hon⟩ := hlv
      have so := ss.sz o (List.mem_of_getElem? ho)
      have hB6 := hB5.find he ho hlo hon hm fun j p h1 h2 h3 => ss.un h1 ho h3
      have hF6 := hB6.len
      rw [List.length_append, List.length_map] at hF6
      have hF6 : F'.length + 1 ≤ O.length := hF6
      one_sign
      rw [← hon]
      refine ⟨sp, dxs, st, pr, rt, hd, al, co, rs, hs, dx, wl, pl, _, _, least, O, kvs, jj, o, rfl, ss6.S, ss6.T, ss6.G, ho, hlo, by omega, fun q H7 hq q7 f7 => ?_⟩
      have l7 := f7.g0 l6
      have rl : (rowOf o).length = o.sl.length + 1 := rfl
      one_sign
      rw [List.length_map]
      refine z_rng1 (rowOf o).length rfl (by omega) ?_
      have y27 := f7.g0 (t56 _ _ y2)
      have hyn : y.2.2.1.map V.int ≠ [] := fun e => hN1 (List.map_eq_nil_iff.mp e)
      refine z_lcR (fun i xs H' => ∃ V' : List Wti, xs = wtL V' ∧ WtI H' V' ∧ wtW V' = (rowOf o).take i ∧ (∀ x ∈ V', x.2.2.1 ≠ [] ∧ x.2.2.1.length ≤ F'.length + 2)) (fun _ _ _ _ => ⟨[], rfl, fun x hx => (by cases hx), rfl, fun x hx => (by cases hx)⟩) ?_ ?_
      · intro L i2 xs H8 hL hi hl hV hx f8
        obtain ⟨V', rfl, hI8, hP8, hN8⟩ := hV
        obtain ⟨x, hxi⟩ : ∃ x, (rowOf o)[i2]? = some x := ⟨_, List.getElem?_eq_getElem hi⟩
        leaf_len
        refine z_newL (by show 1 ≤ sizeLine; decide) fun pa H9 hpa f9 p9 => ?_
        one_sign
        refine z_addT (f9.g0 (f8.g0 y27)) p9 (by rw [List.length_map, sizeLine_eq]; show _ + 1 ≤ _; omega) hyn (by simp) fun pb H10 hpb f10 p10 => ?_
        one_sign
        refine z_ixL (f10.g0 (f9.g0 (f8.g0 q7))) (by rw [Int.zero_add]; exact atI_nat (int_at hxi)) ?_
        one_sign
        refine z_newL (by show 2 ≤ sizeLine; decide) fun a H11 ha f11 a11 => ?_
        have hx11 := f11.g0 (f10.g0 (f9.g0 hx))
        refine z_lcY hL hx11 (((f8.trans f9).trans f10).trans f11) hl (by rw [sizeLine_eq]; omega) fun H12 f12 _ _ => ?_
        have t12 : TP H11 H12 := f12.tp1 hx11 (by intro _ z; cases z)
        refine ⟨V' ++ [(a, pb, y.2.2.1 ++ [(i2 : Int)], x)], by unfold wtL; rw [List.map_append]; rfl, ((hI8.mono ((f9.trans f10).trans f11).tp).app (fun z hz => ?_)).mono t12, ?_, fun z hz => ?_⟩
        · rw [List.mem_singleton.mp hz]
          refine ⟨a11, ?_⟩
          have := f11.g0 p10
          rw [this, Int.zero_add, List.map_append]
          rfl
        · unfold wtW at hP8 ⊢
          rw [List.map_append, hP8, List.take_succ, hxi]; rfl
        · rcases List.mem_append.mp hz with h | h
          · exact hN8 z h
          · rw [List.mem_singleton.mp h]; exact ⟨by simp, by show (y.2.2.1 ++ [_]).length ≤ _; rw [List.length_append]; show _ + 1 ≤ _; omega⟩
      intro L xs H8 hL hV hl hx8 f8
      obtain ⟨V', rfl, hI8, hP8, hN8⟩ := hV
      rw [List.take_length] at hP8
      have hVl : V'.length = o.sl.length + 1 := by
        have := congrArg List.length hP8
        unfold wtW at this
        rw [List.length_map] at this
        omega
      have l8 := f8.g0 l7
      have f78 := f7.trans f8
      one_sign
      refine z_extend l8 hx8 (by unfold wtL; rw [List.length_map, List.length_map, sizeLine_eq]; omega) fun H9 f9 l9 n9 => ?_
      have t9 : TP H8 H9 := f9.tp1 l8 (by intro _ z; cases z)
      have t59 : TP H5 H9 := (t56.trans f78.tp).trans t9
      have D9 := f9.g (f78.g0 D6) (nin (ne_of D6 l6 (by intro z; cases z)))
      have w9 := f9.g (f78.g0 w6) (nin nlw.symm)
      refine ⟨F' ++ [(o.num, y.2.1)], W' ++ V', _, _, _, _, rfl, by rw [hon]; exact D9, ?_, ?_, fun h => ?_, fun x hx => ?_, ?_, ?_, (hI5.mono t59).app (hI8.mono t9), w9, hIW.mono t59, (f06.trans f78).in f9 hla0⟩
      · rw [List.map_append]
        show Bfs O r0 _ ((W.drop (j + 1) ++ (W' ++ V')).map _)
        rw [← List.append_assoc, List.map_append, show V'.map (·.2.2.2) = rowOf o from hP8]
        exact hB6
      · rw [List.length_append]; omega
      · rw [List.length_append] at h; exact absurd h (by show ¬ F'.length + 1 = _; omega)
      · rw [List.length_append]
        show _ ∧ _ ≤ F'.length + 1 + 1
        rcases List.mem_append.mp hx with h | h
        · exact ⟨(hN5 x h).1, by have := (hN5 x h).2; omega⟩
        · exact hN8 x h
      · rw [List.length_append, List.length_append]
        show _ ≤ 70 * (F'.length + 1)
        omega
      · rw [l9]
        unfold wtL
        rw [List.map_append]
    · one_sign
      exact ⟨F', W', _, _, _, _, rfl, D5, hB5.skip fun h1 h2 => absurd ⟨h1, h2⟩ hno, hFl, hFW, hN5, hWl5, l5, hI5, hw5, hIW, f5⟩
  · obtain ⟨F', W', v6, v7, v8, v9, rfl, D5, hB5, hFl, hFW, hN5, hWl5, l5, hI5, hw5, hIW, f5⟩ := hI
    have e : W.drop (wtL W).length = [] := List.drop_eq_nil_iff.mpr (by unfold wtL; rw [List.length_map]; exact Nat.le_refl _)
    rw [e, List.nil_append] at hB5
    have hF'l := hB5.len
    rw [List.length_map] at hF'l
    have hOl := ss.len
    one_sign
    refine ⟨_, ?_, la, W', F', _, _, _, _, _, rfl, D5, l5, hI5, hB5, hN5, by omega, f5, rfl⟩
    by_cases e2 : F'.length = F.length
    · rw [hFW e2, e2]
      show _ * 2 + 0 < _
      have : W.length.min 1 = 1 := Nat.min_eq_right hW1
      omega
    · have : W'.length.min 1 ≤ 1 := Nat.min_le_right _ _
      omega
end

end LX
namespace LX
open PySem PySem.Spec PyProof.Rows L2 NdefX
set_option hygiene false in
local macro_rules | `(tactic| k_memK) => `(tactic| first | exact W.na_Store_room | exact W.na_Store_entries | exact W.na_Store_words | exact W.na_Store__places | exact W.na_Store__least | exact W.na_Space_store | exact W.na_Space_pressure | exact W.na_Space_always | exact W.na_Space_allocations | exact W.na_Space_collections | exact W.na_Space__roots | exact W.na_Space__held | exact W.na_Space__saved)
set_option hygiene false in
local macro_rules | `(tactic| k_ownIn) => `(tactic| first | exact W.C_Store | exact W.C_Space)
local macro_rules | `(tactic| none_booked) => `(tactic| first | assumption | (refine Fr.g0 (by assumption) ?_; none_booked))
local macro_rules | `(tactic| one_sign) => `(tactic| repeat (first
  | refine Stp.h ?_
  | ((with_reducible refine' z_fld1 ?k0 ?k1 ?k2 ?k3 ?_); (case k0 => none_booked); (case k1 => k_ownIn); (case k2 => k_memK); (case k3 => rfl))
  | ((with_reducible refine' z_meth1 ?k0 ?k1 ?_); (case k0 => none_booked); (case k1 => rfl))
  | ((with_reducible refine' z_bmL ?k0 ?_); (case k0 => none_booked))
  | ((with_reducible refine' z_lenL ?k0 ?_); (case k0 => none_booked))
  | ((with_reducible refine' z_lenT ?k0 ?_); (case k0 => none_booked))
  | ((with_reducible refine' z_lenD ?k0 ?_); (case k0 => none_booked))
  | ((with_reducible refine' z_truL ?k0 ?_); (case k0 => none_booked))
  | ((with_reducible refine' z_truD ?k0 ?_); (case k0 => none_booked))
  | ((with_reducible refine' z_truT ?k0 ?_); (case k0 => none_booked))
  | ((with_reducible refine' z_inDIP ?k0 ?_); (case k0 => none_booked))
  | ((with_reducible refine' z_inDIN ?k0 ?_); (case k0 => none_booked))
  | ((with_reducible refine' z_inDfP ?k0 ?_); (case k0 => none_booked))
  | ((with_reducible refine' z_inDfN ?k0 ?_); (case k0 => none_booked))
  | ((with_reducible refine' z_iList1 ?k0 ?_); (case k0 => none_booked))
  | ((with_reducible refine' z_isi0 ?k0 ?k1 ?k2 ?_); (case k0 => exact (ClsV.ty _)); (case k1 => exact (TyX.base (TyOf.lst (by none_booked)))); (case k2 => first | exact kt_list_int | exact kt_list_bool | exact kt_list_str | exact kt_list_list | exact kt_list_tuple | exact kt_list_dict))
  | ((with_reducible refine' z_rI ?k0 ?_); (case k0 => first | exact (by decide : (0 : Int) < _) | exact ⟨by decide, by decide⟩ | exact ⟨by decide, by decide, by decide⟩ | (show (0 : Int) < _; omega)))
  | ((with_reducible refine' z_mulI ?k0 ?_); (case k0 => first | exact Or.inr ⟨by decide, by decide⟩ | exact Or.inl ⟨by decide, by decide⟩ | exact Or.inl ⟨by omega, by omega⟩ | exact Or.inr ⟨by omega, by omega⟩))))
local macro_rules | `(tactic| leaf_len) => `(tactic| (simp only [wipe, List.map_cons, List.map_nil, List.set_cons_zero, List.set_cons_succ]; one_sign; refine z_ok rfl ?_; one_sign))
def rowAt (O : List Ob) (n : Int) : List Int := match O.find? (fun o => decide (o.num = n)) with | some o => rowOf o | none => []
theorem rowAt_of {O : List Ob} (nd : (O.map (·.num)).Nodup) {o : Ob} (ho : o ∈ O) : rowAt O o.num = rowOf o := by
  have : O.find? (fun p => decide (p.num = o.num)) = some o := by
    induction O with
    | nil => cases ho
    | cons a r ih =>
      rw [List.map_cons, List.nodup_cons] at nd
      rcases List.mem_cons.mp ho with e | e
      · subst e; rw [List.find?_cons_of_pos (by simp)]
      · rw [List.find?_cons_of_neg (by
          simp only [decide_eq_true_eq]
          intro z
          exact nd.1 (by rw [z]; exact List.mem_map.mpr ⟨o, e, rfl⟩)), ih nd.2 e]
  unfold rowAt
  rw [this]
def Hit (ws : List Int) (n : Int) : Prop := ∃ w ∈ ws, w % 2 = 0 ∧ w / 2 = n
theorem Hit.snoc {ws : List Int} {i : Nat} {w n : Int} (h : ws[i]? = some w) : Hit (ws.take (i + 1)) n ↔ Hit (ws.take i) n ∨ (w % 2 = 0 ∧ w / 2 = n) := by
  rw [List.take_succ, h]
  constructor
  · rintro ⟨x, hx, e⟩
    rcases List.mem_append.mp hx with hx | hx
    · exact .inl ⟨x, hx, e⟩
    · rw [show x = w by simpa using hx] at e; exact .inr e
  · rintro (⟨x, hx, e⟩ | e)
    · exact ⟨x, List.mem_append_left _ hx, e⟩
    · exact ⟨w, by simp, e⟩
structure LnL (H : Hp) (A : List Addr) (Lk : List (List Nat)) : Prop where
  len : A.length = Lk.length
  it : ∀ (i : Nat) (a : Addr) (l : List Nat), A[i]? = some a → Lk[i]? = some l → H a = some (.lst (natZ l))
  nd : A.Nodup
theorem LnL.keep {H H' : Hp} {A : List Addr} {Lk : List (List Nat)} (L : LnL H A Lk) (f : Fr [] H H') : LnL H' A Lk := ⟨L.len, fun i a l h1 h2 => f.g0 (L.it i a l h1 h2), L.nd⟩
theorem LnL.set {H H' : Hp} {A : List Addr} {Lk : List (List Nat)} {p : Nat} {a : Addr} {l' : List Nat} (L : LnL H A Lk) (ha : A[p]? = some a) (f : Fr [a] H H') (h : H' a = some (.lst (natZ l'))) : LnL H' A (Lk.set p l') := by
  refine ⟨by rw [List.length_set]; exact L.len, fun i b l hb hl => ?_, L.nd⟩
  by_cases e : i = p
  · subst e
    rw [ha] at hb; cases hb
    have := (List.getElem?_eq_some_iff.mp hl).1
    rw [List.length_set] at this
    rw [List.getElem?_set_self this] at hl
    cases hl
    exact h
  · rw [List.getElem?_set_ne (Ne.symm e)] at hl
    refine f.g (L.it i b l hb hl) (nin fun z => e ?_)
    subst z
    have h1 := (List.getElem?_eq_some_iff.mp hb).1
    exact (List.getElem?_inj h1 L.nd).mp (hb.trans ha.symm)
structure Lsp (rows : List (List Int)) (F : List Int) (Lk : List (List Nat)) (k i : Nat) : Prop where
  len : Lk.length = F.length + 1
  nd : ∀ l ∈ Lk, l.Nodup ∧ ∀ j ∈ l, j ≤ k
  it : ∀ (p : Nat) (n : Int) (l : List Nat), F[p]? = some n → Lk[p + 1]? = some l → ∀ j, j ∈ l ↔ (j < k ∧ ∃ r, rows[j]? = some r ∧ Hit r n) ∨ (j = k ∧ ∃ r, rows[k]? = some r ∧ Hit (r.take i) n)
theorem Lsp.start (rows : List (List Int)) (F : List Int) : Lsp rows F (List.replicate (F.length + 1) []) 0 0 := by
  refine ⟨List.length_replicate, fun l hl => ?_, fun p n l _ hl j => ?_⟩
  · rw [(List.mem_replicate.mp hl).2]; exact ⟨List.nodup_nil, fun j h => (by cases h)⟩
  · rw [(List.mem_replicate.mp (List.mem_of_getElem? hl)).2]
    constructor
    · intro h; cases h
    · rintro (⟨h, _⟩ | ⟨_, r, _, w, hw, _⟩)
      · omega
      · simp at hw
theorem Lsp.same {rows : List (List Int)} {F : List Int} {Lk : List (List Nat)} {k i : Nat} {r : List Int} {w : Int} (L : Lsp rows F Lk k i) (hr : rows[k]? = some r) (hw : r[i]? = some w) (hs : ∀ (p : Nat) (l : List Nat), w % 2 = 0 → F[p]? = some (w / 2) → Lk[p + 1]? = some l → k ∈ l) : Lsp rows F Lk k (i + 1) := by
  refine ⟨L.len, L.nd, fun p n l hn hl j => ?_⟩
  rw [L.it p n l hn hl j]
  refine or_congr Iff.rfl (and_congr_right fun e => ?_)
  subst e
  constructor
  · rintro ⟨r', h1, h2⟩
    rw [hr] at h1; cases h1
    exact ⟨r, hr, (Hit.snoc hw).mpr (.inl h2)⟩
  · rintro ⟨r', h1, h2⟩
    rw [hr] at h1; cases h1
    rcases (Hit.snoc hw).mp h2 with h | ⟨h3, h4⟩
    · exact ⟨r, hr, h⟩
    · subst h4
      have := (L.it p _ l hn hl j).mp (hs p l h3 hn hl)
      rcases this with ⟨h, _⟩ | ⟨_, h⟩
      · omega
      · exact h
theorem Lsp.put {rows : List (List Int)} {F : List Int} {Lk : List (List Nat)} {k i p : Nat} {r : List Int} {l : List Nat} {w : Int} (L : Lsp rows F Lk k i) (ndF : F.Nodup) (hr : rows[k]? = some r) (hw : r[i]? = some w) (he : w % 2 = 0) (hp : F[p]? = some (w / 2)) (hl : Lk[p + 1]? = some l) (hk : k ∉ l) : Lsp rows F (Lk.set (p + 1) (l ++ [k])) k (i + 1) := by
  obtain ⟨n1, n2⟩ := L.nd l (List.mem_of_getElem? hl)
  refine ⟨by rw [List.length_set]; exact L.len, fun l' hl' => ?_, fun q n l' hn hl' j => ?_⟩
  · rcases List.mem_or_eq_of_mem_set hl' with h | h
    · exact L.nd l' h
    · subst h
      refine ⟨List.nodup_append.mpr ⟨n1, by simp, fun a ha b hb e => hk ?_⟩, fun j hj => ?_⟩
      · rw [show b = k by simpa using hb] at e; rw [← e]; exact ha
      · rcases List.mem_append.mp hj with h | h
        · exact n2 j h
        · rw [show j = k by simpa using h]; exact Nat.le_refl _
  · by_cases e : q = p
    · subst e
      rw [hp] at hn; cases hn
      rw [List.getElem?_set_self (List.getElem?_eq_some_iff.mp hl).1] at hl'
      cases hl'
      rw [List.mem_append, L.it q _ l hp hl j]
      constructor
      · rintro ((h | ⟨e, r', h1, h2⟩) | h)
        · exact .inl h
        · subst e
          rw [hr] at h1; cases h1
          exact .inr ⟨rfl, r, hr, (Hit.snoc hw).mpr (.inl h2)⟩
        · exact .inr ⟨by simpa using h, r, hr, (Hit.snoc hw).mpr (.inr ⟨he, rfl⟩)⟩
      · rintro (h | ⟨e, r', h1, h2⟩)
        · exact .inl (.inl h)
        · exact .inr (by simp [e])
    · rw [List.getElem?_set_ne (by omega)] at hl'
      rw [L.it q n l' hn hl' j]
      refine or_congr Iff.rfl (and_congr_right fun e2 => ?_)
      subst e2
      constructor
      · rintro ⟨r', h1, h2⟩
        rw [hr] at h1; cases h1
        exact ⟨r, hr, (Hit.snoc hw).mpr (.inl h2)⟩
      · rintro ⟨r', h1, h2⟩
        rw [hr] at h1; cases h1
        rcases (Hit.snoc hw).mp h2 with h | ⟨h3, h4⟩
        · exact ⟨r, hr, h⟩
        · subst h4
          exact absurd ((List.getElem?_inj (List.getElem?_eq_some_iff.mp hn).1 ndF).mp (hn.trans hp.symm)) e
theorem Lsp.next {rows : List (List Int)} {F : List Int} {Lk : List (List Nat)} {k : Nat} {r : List Int} (L : Lsp rows F Lk k r.length) (hr : rows[k]? = some r) : Lsp rows F Lk (k + 1) 0 := by
  refine ⟨L.len, fun l hl => ⟨(L.nd l hl).1, fun j hj => Nat.le_succ_of_le ((L.nd l hl).2 j hj)⟩, fun p n l hn hl j => ?_⟩
  rw [L.it p n l hn hl j]
  constructor
  · rintro (⟨h, z⟩ | ⟨e, r', h1, h2⟩)
    · exact .inl ⟨by omega, z⟩
    · subst e
      rw [hr] at h1; cases h1
      rw [List.take_length] at h2
      exact .inl ⟨by omega, r, hr, h2⟩
  · rintro (⟨h, r', h1, h2⟩ | ⟨_, r', _, w, hw, _⟩)
    · by_cases e : j = k
      · subst e
        rw [hr] at h1; cases h1
        exact .inr ⟨rfl, r, hr, by rw [List.take_length]; exact h2⟩
      · exact .inl ⟨by omega, r', h1, h2⟩
    · simp at hw
theorem Lsp.done {rows : List (List Int)} {F : List Int} {Lk : List (List Nat)} (L : Lsp rows F Lk rows.length 0) {p : Nat} {n : Int} {l : List Nat} (hn : F[p]? = some n) (hl : Lk[p + 1]? = some l) (j : Nat) : j ∈ l ↔ ∃ r, rows[j]? = some r ∧ Hit r n := by
  rw [L.it p n l hn hl j]
  constructor
  · rintro (⟨_, z⟩ | ⟨e, r', h1, h2⟩)
    · exact z
    · have := (List.getElem?_eq_some_iff.mp h1).1; omega
  · rintro ⟨r, h1, h2⟩
    exact .inl ⟨(List.getElem?_eq_some_iff.mp h1).1, r, h1, h2⟩
theorem Lsp.llen {rows : List (List Int)} {F : List Int} {Lk : List (List Nat)} {k i : Nat} (L : Lsp rows F Lk k i) {l : List Nat} (hl : l ∈ Lk) : l.length ≤ k + 1 := by
  have := nd_len l (List.range (k + 1)) (L.nd l hl).1 fun j hj => List.mem_range.mpr (by have := (L.nd l hl).2 j hj; omega)
  rwa [List.length_range] at this
theorem inl_nd {l : List Int} (h : l.Nodup) : (l.map (Sum.inl : Int → Key)).Nodup := List.Pairwise.map _ (fun a b hab e => hab (Sum.inl.inj e)) h
/-- the places of what is in order, from 1 -/
def pK (F : List Int) : List (Key × V) := F.mapIdx fun k n => (.inl n, .int ((k : Int) + 1))
theorem pK_snoc (F : List Int) (n : Int) : pK (F ++ [n]) = pK F ++ [(.inl n, .int ((F.length : Int) + 1))] := by unfold pK; rw [List.mapIdx_append]; simp
theorem pK_keys (F : List Int) : (pK F).map (·.1) = F.map Sum.inl := by
  refine List.ext_getElem? fun i => ?_
  unfold pK
  rw [List.getElem?_map, List.getElem?_mapIdx, List.getElem?_map, Option.map_map]
  rfl
theorem pK_val {F : List Int} (nd : F.Nodup) {p : Nat} {n : Int} (h : F[p]? = some n) : valV (pK F) (.inl n) = some (.int ((p : Int) + 1)) := by
  refine mem_valV (by rw [pK_keys]; exact inl_nd nd) ?_
  refine List.mem_of_getElem? (i := p) ?_
  unfold pK
  rw [List.getElem?_mapIdx, h]; rfl
theorem pK_put {F : List Int} {n : Int} (h : n ∉ F) : putK (pK F) (.inl n) (.int ((F.length : Int) + 1)) = pK (F ++ [n]) := by
  rw [pK_snoc, putK_new]
  cases e : valV (pK F) (.inl n) with
  | none => rfl
  | some v =>
    have : (Sum.inl n : Key) ∈ (pK F).map (·.1) := List.mem_map.mpr ⟨_, val_mem e, rfl⟩
    rw [pK_keys] at this
    obtain ⟨m, hm, e⟩ := List.mem_map.mp this
    cases e
    exact absurd hm h
theorem inVN (k : Nat) (l : List Nat) : inV (.int (k : Int)) (natZ l) = decide (k ∈ l) := by
  unfold inV natZ
  rw [List.any_map]
  by_cases h : k ∈ l
  · rw [decide_eq_true h, List.any_eq_true]
    exact ⟨k, h, by simp [eqV]⟩
  · rw [decide_eq_false h, List.any_eq_false]
    intro x hx
    simp only [Function.comp, eqV, beq_iff_eq]
    intro e
    exact h (by have : x = k := by omega
                rw [← this]; exact hx)
theorem natZ_flat (l : List Nat) : (natZ l).all flatV = true := by unfold natZ; rw [List.all_map]; exact List.all_eq_true.mpr fun _ _ => rfl
theorem natZ_snoc (l : List Nat) (k : Nat) : natZ l ++ [V.int (k : Int)] = natZ (l ++ [k]) := by unfold natZ; rw [List.map_append]; rfl
theorem nd_take {F : List Int} (nd : F.Nodup) {i : Nat} {n : Int} (h : F[i]? = some n) : n ∉ F.take i := fun hm => by
  obtain ⟨j, hj⟩ := List.getElem?_of_mem hm
  have hj2 := (List.getElem?_eq_some_iff.mp hj).1
  rw [List.length_take] at hj2
  rw [List.getElem?_take, if_pos (by omega)] at hj
  have := (List.getElem?_inj (List.getElem?_eq_some_iff.mp hj).1 nd).mp (hj.trans h.symm)
  omega
section
variable {P : Program} {w : World} {K : PySem.W.Frag} {mg : Str → Option Value} {base : Heap}
def sp_links (C CS PT : Addr) : Sp := fun vs H Q _ => ∃ sp X O rs hs oa F, vs = [.ref sp, .ref oa] ∧ Spc C CS PT H sp X O rs hs ∧ IsI H oa F ∧ Ordr O (0 :: (rs ++ hs)) F ∧
  ∀ la A Lk H', H la = none → H' la = some (.lst (A.map V.ref)) → LnL H' A Lk → Lsp ((0 :: (rs ++ hs)) :: F.map (rowAt O)) F Lk (F.length + 1) 0 → Fr [] H H' → Q (.ref la) H'
theorem ok_links_into (W : WT P K mg base) : FnOk P w K mg base CX0 4 W.f_links_into W.fd_links_into ["space", "order"] (sp_links W.c_Store W.c_Space W.PT_Store_close_up) := by
  refine W.F_links_into.ok sc_links_into (fun vs H Q E h => by obtain ⟨sp, X, O, rs, hs, oa, F, rfl, S0, hoa, hF, k⟩ := h; rfl) (fun cdv A outer s H vs Q E hr h => ?_)
  obtain ⟨sp, X, O, rs, hs, oa, F, rfl, S0, hoa, hF, k⟩ := h
  have hu1 := hu_of hr
  have hu64 := hu64_of hr
  refine ⟨_, (pss_cons (ps_setDc (i := 2) (own := [("k", 3)]) (g := gName 3) (tt := tYes) rfl sc_links_into.nd rfl rfl (swd_true rfl rfl rfl (by decide +kernel)) (pi_range1 (by rfl) W.n_range (pa_cons (pe_callB call_lenU (by rfl) W.n_len bb_len (pa_cons (pv 1) pa_nil)) pa_nil)) (blkOk_by (N := N_links_into) (sc := defScope s_links_into) (by decide +kernel)) (fun _ _ _ _ _ => (pg_name (i := 3) sc_links_into.nd rfl (by first | exact Or.inl rfl | exact Or.inr rfl))) (fun _ _ _ _ _ => pts_nil) (fun _ _ _ _ _ => (pe_ix (ix_UK (K := K) rfl (by exact hu1)) (pv 1) (pv 3) (fun _ _ => rfl))) (fun _ _ _ _ _ => (pe_op (op_addUK (K := K) rfl) (pv 3) pe_int)))
      (pss_cons (ps_setLc (i := 4) (own := [("_", 5)]) (g := gName 5) (tt := tYes) rfl sc_links_into.nd rfl rfl (sw_true rfl rfl rfl (by decide +kernel)) (pi_range1 (by rfl) W.n_range (pa_cons (pe_op op_addU (pe_callB call_lenU (by rfl) W.n_len bb_len (pa_cons (pv 1) pa_nil)) pe_int) pa_nil)) (blkOk_by (N := N_links_into) (sc := defScope s_links_into) (by first | decide +kernel | rfl)) (fun _ _ _ _ _ => (pg_name (i := 5) sc_links_into.nd rfl (by first | exact Or.inl rfl | exact Or.inr rfl))) (fun _ _ _ _ _ => pts_nil) (fun _ _ _ _ _ => (pe_lst pa_nil)))
      (pss_cons (ps_set (i := 6) sc_links_into.nd rfl (by first | exact Or.inl rfl | exact Or.inr rfl) (pe_op op_addU (pe_lst (pa_cons (pe_meth0 (pv 0) W.C_Space W.m_Space_all_roots (ok_Space_all_roots W) (hr.mono (by decide)) W.b_Space_all_roots .nil pass0 ) pa_nil)) (pe_lc (own := [("number", 7)]) (g := gName 7) (tt := tYes) rfl sc_links_into.nd (pi_list (pv 1)) (blkOk_by (N := N_links_into) (sc := defScope s_links_into) (by first | decide +kernel | rfl)) (fun _ _ _ _ _ => (pg_name (i := 7) sc_links_into.nd rfl (by first | exact Or.inl rfl | exact Or.inr rfl))) (fun _ _ _ _ _ => pts_nil) (fun _ _ _ _ _ => (pe_call (ok_row_of W) (hr.mono (by decide)) rfl W.g_row_of W.F_row_of.kp W.b_row_of .nil pass0 (pa_cons (pv 0) (pa_cons (pv 7) pa_nil)))))))
      (pss_cons (ps_for PassesOwn.never rfl (pi_range1 (by rfl) W.n_range (pa_cons (pe_callB call_lenU (by rfl) W.n_len bb_len (pa_cons (pv 6) pa_nil)) pa_nil)) (pg_name (i := 3) sc_links_into.nd rfl (by first | exact Or.inl rfl | exact Or.inr rfl)) (pss_one (ps_for PassesOwn.never rfl (pi_list (pe_ix (ix_U hu1) (pv 6) (pv 3) (fun _ _ => rfl))) (pg_name (i := 8) sc_links_into.nd rfl (by first | exact Or.inl rfl | exact Or.inr rfl)) (pss_cons (ps_set (i := 7) sc_links_into.nd rfl (by first | exact Or.inl rfl | exact Or.inr rfl) (pe_call (ok_object_of W) (hr.mono (by decide)) rfl W.g_object_of W.F_object_of.kp W.b_object_of .nil pass0 (pa_cons (pv 0) (pa_cons (pv 8) pa_nil))))
      (pss_one (ps_if (PW.pt (pw_and (pt_cmpR op_isnotU (pv 7) pe_non (by first | exact nomark _ | rfl)) (pw_and1 (pt_cmpR (op_ninU hu1) (pv 3) (pe_ix (ix_U hu1) (pv 4) (pe_ix (ix_U hu1) (pv 2) (pv 7) (fun _ _ => rfl)) (fun _ _ => rfl)) (by first | exact nomark _ | rfl))))) (pss_one (ps_expr (pe_bm PySem.F.plainAttrs_list PySem.F.slot_list_append PySem.F.type_list_append mt_append (pe_ix (ix_U hu1) (pv 4) (pe_ix (ix_U hu1) (pv 2) (pv 7) (fun _ _ => rfl)) (fun _ _ => rfl)) (pa_cons (pv 3) pa_nil)))) pss_nil))))))
      (pss_one (ps_ret (pv 4))))))), ?_⟩
  refine z_start (σ := [some _, some _, none, none, none, none, none, none, none]) rfl ?_
  one_sign
  obtain ⟨dxs, st, dx, wl, pl, pr, rt, hd, al, co, least, kvs, rfl, ss⟩ := S0
  have hOl := ss.len
  have hFO : F.length ≤ O.length := live_len hF.nd fun n hn => ((hF.re n).mp hn).live
  have hoa : H oa = some (.lst (F.map V.int)) := hoa
  rw [List.length_map]
  refine z_rng1 F.length rfl (by omega) ?_
  refine z_dcR (fun i kvs H' => kvs = pK (F.take i)) (fun _ _ => rfl) (fun R i kvs H1 hR hi e hx f1 => ?_) (fun pa kvs H1 hpa e hp f1 => ?_)
  · subst e
    obtain ⟨n, hn⟩ : ∃ n, F[i]? = some n := ⟨_, List.getElem?_eq_getElem hi⟩
    leaf_len
    refine z_ixL (f1.g0 hoa) (by rw [Int.zero_add]; exact atI_nat (int_at hn)) ?_
    one_sign
    refine z_dcY hR hx f1 (by unfold pK; rw [List.length_mapIdx, List.length_take, sizeLine_eq]; omega) fun H6 _ _ => ?_
    show putK _ _ _ = _
    have e : (F.take i).length = i := by rw [List.length_take]; omega
    rw [List.take_succ, hn]
    have := pK_put (nd_take hF.nd hn)
    rw [e] at this
    rw [Int.zero_add]
    exact this
  subst e
  rw [List.take_length] at hp
  one_sign
  rw [List.length_map]
  refine z_rng1 (F.length + 1) (by omega) (by omega) ?_
  refine z_lcR (fun i xs H' => ∃ A : List Addr, xs = A.map V.ref ∧ A.length = i ∧ A.Nodup ∧ ∀ a ∈ A, H' a = some (.lst []) ∧ H a = none) (fun _ _ _ _ => ⟨[], rfl, rfl, List.nodup_nil, fun x hx => (by cases hx)⟩) ?_ ?_
  · intro L i xs H3 hL hi hl hW hx f3
    obtain ⟨A, rfl, hAl, hnd, hA⟩ := hW
    leaf_len
    refine z_newL (by show 0 ≤ sizeLine; decide) fun a H4 ha f4 a4 => ?_
    refine z_lcY hL (f4.g0 hx) (f3.trans f4) hl (by rw [sizeLine_eq]; omega) fun H5 f5 _ _ => ?_
    have nLa : L ≠ a := ne_of_none hx ha
    refine ⟨A ++ [a], by rw [List.map_append]; rfl, by rw [List.length_append, hAl]; rfl, List.nodup_append.mpr ⟨hnd, by simp, fun b hb c hc e => ?_⟩, fun b hb => ?_⟩
    · rw [show c = a by simpa using hc] at e
      subst e
      rw [(hA _ hb).1] at ha; cases ha
    · rcases List.mem_append.mp hb with h | h
      · refine ⟨f5.g (f4.g0 (hA b h).1) (nin (ne_of (hA b h).1 hx (fun z => ?_))), (hA b h).2⟩
        cases A with
        | nil => cases h
        | cons => cases z
      · rw [show b = a by simpa using h]
        exact ⟨f5.g a4 (nin nLa.symm), f1.none (f3.none ha)⟩
  intro la xs H3 hla hW hl hl3 f3
  obtain ⟨A, rfl, hAl, hnd, hA⟩ := hW
  have f13 := f1.trans f3
  have ss3 := ss.keep f13
  have hsp3 := ss3.S.sp
  one_sign
  refine ⟨sp, dxs, st, pr, rt, hd, al, co, rs, hs, rfl, ss3.S, by have := ss.rl; omega, by have := ss.hl; omega, fun ra H4 hra hra0 f4 => ?_⟩
  have hr0l : (0 :: (rs ++ hs)).length ≤ 30 := by rw [List.length_cons, List.length_append]; have := ss.rl; have := ss.hl; omega
  generalize hr0 : 0 :: (rs ++ hs) = r0 at hra k hr0l hF
  one_sign
  refine z_newL (by show 1 ≤ sizeLine; decide) fun r1 H5 hr1 f5 r15 => ?_
  have f15 := (f13.trans f4).trans f5
  have hoa5 := f15.g0 hoa
  one_sign
  refine z_lcL hoa5 (fun i xs H' => ∃ RA : List Addr, xs = RA.map V.ref ∧ RwL H' RA ((F.take i).map (rowAt O))) (fun _ _ _ _ => ⟨[], rfl, rfl, fun i a r h => (by simp at h)⟩) ?_ ?_
  · intro L i x xs H6 hL hx hi hl hW hxs f6
    obtain ⟨RA, rfl, hRA⟩ := hW
    rw [List.getElem?_map] at hx
    obtain ⟨n, hn, rfl⟩ := Option.map_eq_some_iff.mp hx
    obtain ⟨j, o, ho, hlo, hon⟩ := ((hF.re n).mp (List.mem_of_getElem? hn)).live
    subst hon
    have ss6 := ss.keep (f15.trans f6)
    have so := ss.sz o (List.mem_of_getElem? ho)
    leaf_len
    refine ⟨sp, dxs, st, pr, rt, hd, al, co, rs, hs, dx, wl, pl, _, _, least, O, kvs, j, o, rfl, ss6.S, ss6.T, ss6.G, ho, hlo, by omega, fun q H7 hq q7 f7 => ?_⟩
    refine z_lcY hL (f7.g0 hxs) (f6.trans f7) hl (by rw [List.length_map] at hi; rw [sizeLine_eq]; omega) fun H8 f8 _ _ => ?_
    have nLq : L ≠ q := ne_of_none hxs hq
    refine ⟨RA ++ [q], by rw [List.map_append]; rfl, ?_⟩
    rw [List.take_succ, hn, List.map_append]
    refine ((hRA.mono f7).keep f8 fun a ha => nin fun z => ?_).snoc (r := rowAt O o.num) ?_
    · obtain ⟨u, hu⟩ := List.getElem?_of_mem ha
      have hlt := (List.getElem?_eq_some_iff.mp hu).1
      obtain ⟨r, hr⟩ : ∃ r, ((F.take i).map (rowAt O))[u]? = some r := ⟨_, List.getElem?_eq_getElem (by have := hRA.len; omega)⟩
      have h1 := hRA.it u a r hu hr
      subst z
      rw [hxs] at h1
      have h1 : RA.map V.ref = r.map V.int := HO.lst.inj (Option.some.inj h1)
      cases RA with
      | nil => cases ha
      | cons b t => cases r with
        | nil => cases h1
        | cons c s => cases h1
    · rw [rowAt_of ss.nd (List.mem_of_getElem? ho)]
      exact f8.g q7 (nin nLq.symm)
  intro rb xs H6 hrb hW hl6 hrb6 f6
  obtain ⟨RA, rfl, hRA⟩ := hW
  rw [List.length_map, List.take_length] at hRA
  have hRAl := hRA.len
  rw [List.length_map] at hRAl
  one_sign
  refine z_addL (f6.g0 r15) hrb6 (by rw [List.length_map, sizeLine_eq]; show 1 + RA.length ≤ _; omega) fun rw_ H7 hrw f7 rw7 => ?_
  have f17 := (f15.trans f6).trans f7
  have L7 : RwL H7 (ra :: RA) (r0 :: F.map (rowAt O)) := by
    refine ⟨by rw [List.length_cons, List.length_cons, List.length_map, hRAl], fun i a r ha hr => ?_⟩
    cases i with
    | zero => cases ha; cases hr; exact f7.g0 (f6.g0 (f5.g0 hra))
    | succ i => exact f7.g0 (hRA.it i a r (by simpa using ha) (by simpa using hr))
  generalize hrows : r0 :: F.map (rowAt O) = rows at k L7
  have hrl : rows.length = F.length + 1 := by rw [← hrows, List.length_cons, List.length_map]
  have rw7 : H7 rw_ = some (.lst ((ra :: RA).map V.ref)) := rw7
  have hAR : (ra :: RA).length = F.length + 1 := by rw [List.length_cons, hRAl]
  generalize ra :: RA = AR at rw7 L7 hAR
  have hla7 := (((f4.trans f5).trans f6).trans f7).g0 hl3
  have hp7 := ((((f3.trans f4).trans f5).trans f6).trans f7).g0 hp
  have fA : ∀ a ∈ A, H7 a = some (.lst []) ∧ H a = none := fun a ha => ⟨(((f4.trans f5).trans f6).trans f7).g0 (hA a ha).1, (hA a ha).2⟩
  have La7 : LnL H7 A (List.replicate (F.length + 1) []) := ⟨by rw [hAl, List.length_replicate], fun i a l ha hl => by
    rw [(List.mem_replicate.mp (List.mem_of_getElem? hl)).2]
    exact (fA a (List.mem_of_getElem? ha)).1, hnd⟩
  have nA : ∀ a ∈ A, H a = none := fun a ha => (fA a ha).2
  have hla0 : H la = none := f1.none hla
  have hpa0 : H pa = none := hpa
  have hrw0 : H rw_ = none := (f15.trans f6).none hrw
  have notA : ∀ (b : Addr) (o : HO), H7 b = some o → o ≠ .lst [] → b ∉ A := fun b o e n hm => n (by rw [(fA b hm).1] at e; exact (Option.some.inj e).symm)
  have hne : ∀ r ∈ rows, r ≠ [] := fun r hr => by
    rw [← hrows] at hr
    rcases List.mem_cons.mp hr with e | hr
    · rw [e, ← hr0]; simp
    · obtain ⟨n, hn, rfl⟩ := List.mem_map.mp hr
      obtain ⟨j, o, ho, hlo, hon⟩ := ((hF.re n).mp hn).live
      rw [← hon, rowAt_of ss.nd (List.mem_of_getElem? ho)]
      exact List.cons_ne_nil _ _
  have laA : la ∉ A := notA _ _ hla7 fun z => by
    have z := HO.lst.inj z
    rw [List.map_eq_nil_iff.mp z] at hAl
    simp at hAl
  have paA : pa ∉ A := notA _ _ hp7 (by intro z; cases z)
  have rwA : rw_ ∉ A := notA _ _ rw7 fun z => by
    have z := HO.lst.inj z
    rw [List.map_eq_nil_iff.mp z] at hAR
    simp at hAR
  have AR0 : ∀ (i : Nat) (a : Addr) (r : List Int), AR[i]? = some a → rows[i]? = some r → a ∉ A := fun i a r ha hr => notA _ _ (L7.it i a r ha hr) fun z => hne r (List.mem_of_getElem? hr) (List.map_eq_nil_iff.mp (HO.lst.inj z))
  one_sign
  rw [List.length_map, hAR]
  refine z_rng1 (F.length + 1) rfl (by omega) ?_
  refine for_range (lo := 0) (n := F.length + 1) (fun i σ H' => ∃ (v3 v7 v8 : Option V) (Lk : List (List Nat)), σ = [some (.ref sp), some (.ref oa), some (.ref pa), v3, some (.ref la), none, some (.ref rw_), v7, v8] ∧ LnL H' A Lk ∧ Lsp rows F Lk i 0 ∧ Fr [] H H' ∧ Fr A H7 H')
    ⟨_, _, _, _, rfl, La7, .start rows F, f17, Fr.rfl'⟩ (fun i σ H8 hi hI => ?_) (fun σ H8 hI => ?_)
  · obtain ⟨v3, v7, v8, Lk, rfl, LL, Ls, f8, g8⟩ := hI
    obtain ⟨q, hq⟩ : ∃ q, AR[i]? = some q := ⟨_, List.getElem?_eq_getElem (by omega)⟩
    obtain ⟨r, hr⟩ : ∃ r, rows[i]? = some r := ⟨_, List.getElem?_eq_getElem (by omega)⟩
    have hqA := AR0 i q r hq hr
    have hq8 := g8.g (L7.it i q r hq hr) hqA
    simp only [Int.zero_add]
    one_sign
    refine z_ixL (g8.g rw7 rwA) (atI_nat (by rw [List.getElem?_map, hq]; rfl)) ?_
    one_sign
    refine for_list (K := K) (a := q) (xs := r.map V.int) (fun j σ H' => ∃ (v7 v8 : Option V) (Lk : List (List Nat)), σ = [some (.ref sp), some (.ref oa), some (.ref pa), some (.int (i : Int)), some (.ref la), none, some (.ref rw_), v7, v8] ∧ LnL H' A Lk ∧ Lsp rows F Lk i j ∧ Fr [] H H' ∧ Fr A H7 H')
      ⟨_, _, Lk, rfl, LL, Ls, f8, g8⟩ (fun j σ H' _ hI => ?_) (fun j x σ H9 hx hI => ?_) (fun σ H9 hI => ?_)
    · obtain ⟨_, _, _, _, _, _, _, g9⟩ := hI
      exact SqL.of (g9.g (L7.it i q r hq hr) hqA)
    · obtain ⟨v7, v8, Lk, rfl, LL, Ls, f9, g9⟩ := hI
      rw [List.getElem?_map] at hx
      obtain ⟨x, hxr, rfl⟩ := Option.map_eq_some_iff.mp hx
      have ss9 := ss.keep f9
      one_sign
      refine ⟨sp, dxs, st, pr, rt, hd, al, co, rs, hs, dx, wl, pl, _, _, least, O, kvs, x, rfl, ss9.S, ss9.T, ss9.G, fun he hlv => ?_, fun hno => ?_⟩
      · have hxF : x / 2 ∈ F := (hF.re _).mpr (by
          have hir := List.mem_of_getElem? hr
          rw [← hrows] at hir
          rcases List.mem_cons.mp hir with e | hir
          · exact .root (by rw [← e]; exact List.mem_of_getElem? hxr) he hlv
          · obtain ⟨n, hn, e⟩ := List.mem_map.mp hir
            obtain ⟨j2, o, ho, hlo, hon⟩ := ((hF.re n).mp hn).live
            rw [← hon, rowAt_of ss.nd (List.mem_of_getElem? ho)] at e
            exact .step (hon ▸ (hF.re n).mp hn) ho hlo rfl (by have := List.mem_of_getElem? hxr; rw [← e] at this; exact this) he hlv)
        obtain ⟨p, hp⟩ := List.getElem?_of_mem hxF
        have hpl := (List.getElem?_eq_some_iff.mp hp).1
        obtain ⟨l, hl⟩ : ∃ l, Lk[p + 1]? = some l := ⟨_, List.getElem?_eq_getElem (by rw [Ls.len]; omega)⟩
        obtain ⟨b, hb⟩ : ∃ b, A[p + 1]? = some b := ⟨_, List.getElem?_eq_getElem (by rw [hAl]; omega)⟩
        have hb9 := LL.it _ b l hb hl
        have hbA := List.mem_of_getElem? hb
        have hpv := pK_val hF.nd hp
        one_sign
        refine z_ixD (g9.g hp7 paA) hpv ?_
        one_sign
        refine z_ixL (g9.g hla7 laA) (by rw [show (p : Int) + 1 = ((p + 1 : Nat) : Int) by omega]; exact atI_nat (by rw [List.getElem?_map, hb]; rfl)) ?_
        one_sign
        refine z_inLN hb9 rfl (natZ_flat l) ?_
        rw [inVN]
        by_cases hk : i ∈ l
        · rw [decide_eq_true hk]
          one_sign
          exact ⟨_, _, Lk, rfl, LL, Ls.same hr hxr fun p' l' _ h1 h2 => (by
            have := (List.getElem?_inj (List.getElem?_eq_some_iff.mp h1).1 hF.nd).mp (h1.trans hp.symm)
            subst this
            rw [hl] at h2; cases h2; exact hk), f9, g9⟩
        · rw [decide_eq_false hk]
          one_sign
          refine z_ixD (g9.g hp7 paA) hpv ?_
          one_sign
          refine z_ixL (g9.g hla7 laA) (by rw [show (p : Int) + 1 = ((p + 1 : Nat) : Int) by omega]; exact atI_nat (by rw [List.getElem?_map, hb]; rfl)) ?_
          one_sign
          refine z_append hb9 (by rw [natZ_len, sizeLine_eq]; have := Ls.llen (List.mem_of_getElem? hl); omega) fun H10 f10 h10 n10 => ?_
          rw [natZ_snoc] at h10
          exact ⟨_, _, _, rfl, LL.set hb f10 h10, Ls.put hF.nd hr hxr he hp hl hk, f9.in f10 (nA b hbA), g9.trans (f10.mono fun c hc => by rw [List.mem_singleton.mp hc]; exact hbA)⟩
      · one_sign
        exact ⟨_, _, Lk, rfl, LL, Ls.same hr hxr fun p l he hp _ => absurd ⟨he, ((hF.re _).mp (List.mem_of_getElem? hp)).live⟩ hno, f9, g9⟩
    · obtain ⟨v7, v8, Lk, rfl, LL, Ls, f9, g9⟩ := hI
      rw [List.length_map] at Ls
      one_sign
      exact ⟨_, _, _, Lk, rfl, LL, Ls.next hr, f9, g9⟩
  · obtain ⟨v3, v7, v8, Lk, rfl, LL, Ls, f8, g8⟩ := hI
    one_sign
    exact k la A Lk H8 hla0 (g8.g hla7 laA) LL Ls f8
end

end LX
namespace LX
open PySem PySem.Spec PyProof.Rows L2 NdefX
set_option hygiene false in
local macro_rules | `(tactic| k_memK) => `(tactic| first | exact W.na_Store_room | exact W.na_Store_entries | exact W.na_Store_words | exact W.na_Store__places | exact W.na_Store__least | exact W.na_Space_store | exact W.na_Space_pressure | exact W.na_Space_always | exact W.na_Space_allocations | exact W.na_Space_collections | exact W.na_Space__roots | exact W.na_Space__held | exact W.na_Space__saved)
set_option hygiene false in
local macro_rules | `(tactic| k_ownIn) => `(tactic| first | exact W.C_Store | exact W.C_Space)
local macro_rules | `(tactic| none_booked) => `(tactic| first | assumption | (refine Fr.g0 (by assumption) ?_; none_booked))
local macro_rules | `(tactic| one_sign) => `(tactic| repeat (first
  | refine Stp.h ?_
  | ((with_reducible refine' z_fld1 ?k0 ?k1 ?k2 ?k3 ?_); (case k0 => none_booked); (case k1 => k_ownIn); (case k2 => k_memK); (case k3 => rfl))
  | ((with_reducible refine' z_meth1 ?k0 ?k1 ?_); (case k0 => none_booked); (case k1 => rfl))
  | ((with_reducible refine' z_bmL ?k0 ?_); (case k0 => none_booked))
  | ((with_reducible refine' z_lenL ?k0 ?_); (case k0 => none_booked))
  | ((with_reducible refine' z_lenT ?k0 ?_); (case k0 => none_booked))
  | ((with_reducible refine' z_lenD ?k0 ?_); (case k0 => none_booked))
  | ((with_reducible refine' z_truL ?k0 ?_); (case k0 => none_booked))
  | ((with_reducible refine' z_truD ?k0 ?_); (case k0 => none_booked))
  | ((with_reducible refine' z_truT ?k0 ?_); (case k0 => none_booked))
  | ((with_reducible refine' z_inDIP ?k0 ?_); (case k0 => none_booked))
  | ((with_reducible refine' z_inDIN ?k0 ?_); (case k0 => none_booked))
  | ((with_reducible refine' z_inDfP ?k0 ?_); (case k0 => none_booked))
  | ((with_reducible refine' z_inDfN ?k0 ?_); (case k0 => none_booked))
  | ((with_reducible refine' z_iList1 ?k0 ?_); (case k0 => none_booked))
  | ((with_reducible refine' z_isi0 ?k0 ?k1 ?k2 ?_); (case k0 => exact (ClsV.ty _)); (case k1 => exact (TyX.base (TyOf.lst (by none_booked)))); (case k2 => first | exact kt_list_int | exact kt_list_bool | exact kt_list_str | exact kt_list_list | exact kt_list_tuple | exact kt_list_dict))
  | ((with_reducible refine' z_rI ?k0 ?_); (case k0 => first | exact (by decide : (0 : Int) < _) | exact ⟨by decide, by decide⟩ | exact ⟨by decide, by decide, by decide⟩ | (show (0 : Int) < _; omega)))
  | ((with_reducible refine' z_mulI ?k0 ?_); (case k0 => first | exact Or.inr ⟨by decide, by decide⟩ | exact Or.inl ⟨by decide, by decide⟩ | exact Or.inl ⟨by omega, by omega⟩ | exact Or.inr ⟨by omega, by omega⟩))))
local macro_rules | `(tactic| leaf_len) => `(tactic| (simp only [wipe, List.map_cons, List.map_nil, List.set_cons_zero, List.set_cons_succ]; one_sign; refine z_ok rfl ?_; one_sign))
def abF (l : List Nat) (k : Nat) : Nat := l.getD k (k - 1)
theorem abF_at {l : List Nat} {k z : Nat} (h : l[k]? = some z) : abF l k = z := by unfold abF; rw [List.getD_eq_getElem?_getD, h]; rfl
theorem abF_out {l : List Nat} {k : Nat} (h : l.length ≤ k) : abF l k = k - 1 := by unfold abF; rw [List.getD_eq_getElem?_getD, List.getElem?_eq_none_iff.mpr h]; rfl
theorem abF_get {l : List Nat} {k : Nat} (h : k < l.length) : l[k]? = some (abF l k) := by
  rw [abF_at (List.getElem?_eq_getElem h), List.getElem?_eq_getElem h]
theorem abF_set {l : List Nat} {j m : Nat} (h : j < l.length) : abF (l.set j m) = put (abF l) j m := funext fun x => by
  unfold put
  by_cases e : x = j
  · subst e
    rw [if_pos rfl]
    exact abF_at (List.getElem?_set_self h)
  · rw [if_neg e]
    unfold abF
    rw [List.getD_eq_getElem?_getD, List.getElem?_set_ne (Ne.symm e), List.getD_eq_getElem?_getD]
theorem sum_set {l : List Nat} {j m z : Nat} (h : l[j]? = some z) : (l.set j m).sum + z = l.sum + m := by
  induction l generalizing j with
  | nil => simp at h
  | cons a r ih =>
    cases j with
    | zero => cases h; simp only [List.set_cons_zero, List.sum_cons]; omega
    | succ j =>
      have := ih (by simpa using h)
      simp only [List.set_cons_succ, List.sum_cons]
      omega
def lkF (Lk : List (List Nat)) (k : Nat) : List Nat := match Lk[k]? with | some l => l | none => [k - 1]
theorem lkF_at {Lk : List (List Nat)} {k : Nat} {l : List Nat} (h : Lk[k]? = some l) : lkF Lk k = l := by unfold lkF; rw [h]
theorem lkF_out {Lk : List (List Nat)} {k : Nat} (h : Lk.length ≤ k) : lkF Lk k = [k - 1] := by unfold lkF; rw [List.getElem?_eq_none_iff.mpr h]
theorem meet_self (ab : Nat → Nat) (f a : Nat) : meet ab f a a = a := by
  cases f with
  | zero => rfl
  | succ f => unfold meet; rw [if_pos rfl]
theorem best_out {Lk : List (List Nat)} {ab : Nat → Nat} {k : Nat} (h : Lk.length ≤ k) : best (lkF Lk) ab k = k - 1 := by
  unfold best
  rw [lkF_out h]
  show meetAll ab [] (meet ab (k - 1 + (k - 1)) (k - 1) (k - 1)) = _
  rw [meet_self]
  rfl
section
variable {P : Program} {w : World} {K : PySem.W.Frag} {mg : Str → Option Value} {base : Heap}
def sp_meet : Sp := fun vs H Q _ => ∃ (a : Addr) (l : List Nat) (x y : Nat), vs = [.ref a, .int (x : Int), .int (y : Int)] ∧ H a = some (.lst (natZ l)) ∧ x < l.length ∧ y < l.length ∧ (∀ k, 0 < k → abF l k < k) ∧ Q (.int (meet (abF l) (x + y) x y : Nat)) H
theorem ok_meeting (W : WT P K mg base) : FnOk P w K mg base CX0 1 W.f_meeting W.fd_meeting ["above", "one", "other"] sp_meet := by
  refine W.F_meeting.ok sc_meeting (fun vs H Q E h => by obtain ⟨a, l, x, y, rfl, ha, hx, hy, hab, k⟩ := h; rfl) (fun cdv A outer s H vs Q E hr h => ?_)
  obtain ⟨a, l, x, y, rfl, ha, hx, hy, hab, k⟩ := h
  have hu1 := hu_of hr
  have hu64 := hu64_of hr
  refine ⟨_, (pss_cons (ps_while PassesOwn.never (pt_cmpR (op_neU hu64) (pv 1) (pv 2) (by first | exact nomark _ | rfl)) (pss_one (ps_if (pt_cmpR op_gtU (pv 1) (pv 2) (by first | exact nomark _ | rfl)) (pss_one (ps_set (i := 1) sc_meeting.nd rfl (by first | exact Or.inl rfl | exact Or.inr rfl) (pe_ix (ix_U hu1) (pv 0) (pv 1) (fun _ _ => rfl)))) (pss_one (ps_set (i := 2) sc_meeting.nd rfl (by first | exact Or.inl rfl | exact Or.inr rfl) (pe_ix (ix_U hu1) (pv 0) (pv 2) (fun _ _ => rfl)))))))
      (pss_one (ps_ret (pv 1)))), ?_⟩
  refine z_start (σ := [some _, some _, some _]) rfl ?_
  one_sign
  generalize hR : meet (abF l) (x + y) x y = R at k
  refine ⟨fun m σ H' => ∃ x' y' f : Nat, σ = [some (.ref a), some (.int (x' : Int)), some (.int (y' : Int))] ∧ x' < l.length ∧ y' < l.length ∧ x' + y' ≤ f ∧ meet (abF l) f x' y' = R ∧ H' = H ∧ m = x' + y', ⟨_, x, y, x + y, rfl, hx, hy, Nat.le_refl _, hR, rfl, rfl⟩, ?_⟩
  rintro m σ H1 ⟨x', y', f, rfl, hx1, hy1, hf, hm, rfl, rfl⟩
  one_sign
  by_cases e : x' = y'
  · subst e
    rw [decide_eq_true rfl]
    one_sign
    rw [meet_self] at hm
    rw [← hm] at k
    exact k
  rw [decide_eq_false (by omega)]
  refine iteT ?_
  refine ⟨_, fun _ _ z => z, ?_⟩
  obtain ⟨f, rfl⟩ : ∃ g, f = g + 1 := ⟨f - 1, by omega⟩
  unfold meet at hm
  rw [if_neg e] at hm
  one_sign
  refine iteD (fun h => ?_) (fun h => ?_)
  · have h : (y' : Int) < (x' : Int) := h
    rw [if_pos (by omega)] at hm
    have h2 := hab x' (by omega)
    one_sign
    refine z_ixL ha (natZ_at (abF_get hx1)) ?_
    one_sign
    exact ⟨abF l x' + y', by omega, abF l x', y', f, rfl, by omega, hy1, by omega, hm, rfl, rfl⟩
  · have h : ¬ (y' : Int) < (x' : Int) := h
    rw [if_neg (by omega)] at hm
    have h2 := hab y' (by omega)
    one_sign
    refine z_ixL ha (natZ_at (abF_get hy1)) ?_
    one_sign
    exact ⟨x' + abF l y', by omega, x', abF l y', f, rfl, hx1, by omega, by omega, hm, rfl, rfl⟩
theorem z_min {H : Hp} {Q : VK} {a : Addr} {l : List Nat} (h : H a = some (.lst (natZ l))) (h0 : l ≠ []) (k : ∀ m : Nat, m ∈ l → (∀ y ∈ l, m ≤ y) → Q (.int (m : Int)) H) : rMin K [.ref a] H Q := by
  refine ⟨a, l.map fun z : Nat => (z : Int), rfl, SqL.of (by rw [List.map_map]; exact h), by rw [List.length_map]; exact List.length_pos_iff.mpr h0, fun m hm hy => ?_⟩
  obtain ⟨z, hz, rfl⟩ := List.mem_map.mp hm
  exact k z hz fun y hy' => by have := hy (y : Int) (List.mem_map.mpr ⟨y, hy', rfl⟩); omega
def sp_pabove : Sp := fun vs H Q _ => ∃ (la : Addr) (A : List Addr) (Lk : List (List Nat)) (n : Nat), vs = [.ref la] ∧ H la = some (.lst (A.map V.ref)) ∧ LnL H A Lk ∧ Lk.length = n + 1 ∧ n ≤ 2000 ∧ (∀ k l, 0 < k → Lk[k]? = some l → (∃ p ∈ l, p < k) ∧ ∀ p ∈ l, p ≤ n) ∧
  ∀ aa ab H', H aa = none → H' aa = some (.lst (natZ ab)) → ab.length = n + 1 → (∀ k, 0 < k → abF ab k < k) → (∀ k d, Anc (abF ab) d k ↔ ¬ Av (lkF Lk) d k) → Fr [] H H' → Q (.ref aa) H'
theorem ok_places_above (W : WT P K mg base) : FnOk P w K mg base CX0 2 W.f_places_above W.fd_places_above ["links"] sp_pabove := by
  refine W.F_places_above.ok sc_places_above (fun vs H Q E h => by obtain ⟨la, A, Lk, n, rfl, hla, LL, hLk, hn, hp, k⟩ := h; rfl) (fun cdv A outer s H vs Q E hr h => ?_)
  obtain ⟨la, A, Lk, n, rfl, hla, LL, hLk, hn, hp, k⟩ := h
  have hu1 := hu_of hr
  have hu64 := hu64_of hr
  refine ⟨_, (pss_cons (ps_set (i := 1) sc_places_above.nd rfl (by first | exact Or.inl rfl | exact Or.inr rfl) (pe_op op_addU (pe_lst (pa_cons pe_int pa_nil)) (pe_lc (own := [("k", 2)]) (g := gName 2) (tt := tYes) rfl sc_places_above.nd (pi_range2 (by rfl) W.n_range (pa_cons pe_int (pa_cons (pe_callB call_lenU (by rfl) W.n_len bb_len (pa_cons (pv 0) pa_nil)) pa_nil))) (blkOk_by (N := N_places_above) (sc := defScope s_places_above) (by first | decide +kernel | rfl)) (fun _ _ _ _ _ => (pg_name (i := 2) sc_places_above.nd rfl (by first | exact Or.inl rfl | exact Or.inr rfl))) (fun _ _ _ _ _ => pts_nil) (fun _ _ _ _ _ => (pe_callB (cr_minE (K := K) rfl rfl) (by rfl) W.n_min bb_min (pa_cons (pe_ix (ix_UK (K := K) rfl (by exact hu1)) (pv 0) (pv 2) (fun _ _ => rfl)) pa_nil))))))
      (pss_cons (ps_set (i := 3) sc_places_above.nd rfl (by first | exact Or.inl rfl | exact Or.inr rfl) pe_bl)
      (pss_cons (ps_while PassesOwn.never (pt_truth (pv 3) (by intro _; rfl)) (pss_cons (ps_set (i := 3) sc_places_above.nd rfl (by first | exact Or.inl rfl | exact Or.inr rfl) pe_bl)
      (pss_one (ps_for PassesOwn.never rfl (pi_range2 (by rfl) W.n_range (pa_cons pe_int (pa_cons (pe_callB call_lenU (by rfl) W.n_len bb_len (pa_cons (pv 0) pa_nil)) pa_nil))) (pg_name (i := 2) sc_places_above.nd rfl (by first | exact Or.inl rfl | exact Or.inr rfl)) (pss_cons (ps_set (i := 4) sc_places_above.nd rfl (by first | exact Or.inl rfl | exact Or.inr rfl) (pe_ix (ix_U hu1) (pe_ix (ix_U hu1) (pv 0) (pv 2) (fun _ _ => rfl)) pe_int (fun _ _ => rfl)))
      (pss_cons (ps_for PassesOwn.never rfl (pi_list (pe_ix (ix_U hu1) (pv 0) (pv 2) (fun _ _ => rfl))) (pg_name (i := 5) sc_places_above.nd rfl (by first | exact Or.inl rfl | exact Or.inr rfl)) (pss_one (ps_set (i := 4) sc_places_above.nd rfl (by first | exact Or.inl rfl | exact Or.inr rfl) (pe_call (ok_meeting W) (hr.mono (by decide)) rfl W.g_meeting W.F_meeting.kp W.b_meeting .nil pass0 (pa_cons (pv 1) (pa_cons (pv 4) (pa_cons (pv 5) pa_nil)))))))
      (pss_one (ps_if (pt_cmpR (op_neU hu64) (pv 4) (pe_ix (ix_U hu1) (pv 1) (pv 2) (fun _ _ => rfl)) (by first | exact nomark _ | rfl)) (pss_cons (ps_asg (pv 4) (pg_sub (pv 1) (pv 2) set_list))
      (pss_one (ps_set (i := 3) sc_places_above.nd rfl (by first | exact Or.inl rfl | exact Or.inr rfl) pe_bl))) pss_nil))))))))
      (pss_one (ps_ret (pv 1)))))), ?_⟩
  refine z_start (σ := [some _, none, none, none, none, none]) rfl ?_
  one_sign
  have hAl : A.length = n + 1 := LL.len.trans hLk
  refine z_newL (by show 1 ≤ sizeLine; decide) fun z1 H1 hz1 f1 z11 => ?_
  have hla1 := f1.g0 hla
  one_sign
  rw [List.length_map, hAl]
  refine z_rng2 n (by omega) ⟨by omega, by omega, by omega, by omega⟩ ?_
  refine z_lcR (fun i xs H' => ∃ ms : List Nat, xs = natZ ms ∧ ms.length = i ∧ ∀ (j z : Nat), ms[j]? = some z → ∃ l, Lk[j + 1]? = some l ∧ z ∈ l ∧ ∀ y ∈ l, z ≤ y) (fun _ _ _ _ => ⟨[], rfl, rfl, fun j z h => (by simp at h)⟩) ?_ ?_
  · intro L i xs H2 hL hi hl hW hx f2
    obtain ⟨ms, rfl, hml, hms⟩ := hW
    obtain ⟨b, hb⟩ : ∃ b, A[i + 1]? = some b := ⟨_, List.getElem?_eq_getElem (by omega)⟩
    obtain ⟨l, hl2⟩ : ∃ l, Lk[i + 1]? = some l := ⟨_, List.getElem?_eq_getElem (by omega)⟩
    obtain ⟨⟨p, hpm, _⟩, _⟩ := hp (i + 1) l (by omega) hl2
    leaf_len
    refine z_ixL (f2.g0 hla1) (by rw [show (1 : Int) + (i : Int) = ((i + 1 : Nat) : Int) by omega]; exact atI_nat (by rw [List.getElem?_map, hb]; rfl)) ?_
    one_sign
    refine z_min (f2.g0 (f1.g0 (LL.it _ b l hb hl2))) (fun e => by rw [e] at hpm; cases hpm) fun m hm hmin => ?_
    refine z_lcY hL hx f2 hl (by rw [sizeLine_eq]; omega) fun H3 f3 _ _ => ?_
    refine ⟨ms ++ [m], by rw [natZ_snoc], by rw [List.length_append, hml]; rfl, fun j z hz => ?_⟩
    rcases get_snoc hz with hz | ⟨e1, e2⟩
    · exact hms j z hz
    · subst e2
      rw [e1, hml]
      exact ⟨l, hl2, hm, hmin⟩
  intro z2 xs H2 hz2 hW hl2 hx2 f2
  obtain ⟨ms, rfl, hml, hms⟩ := hW
  one_sign
  refine z_addL (f2.g0 z11) hx2 (by rw [natZ_len, sizeLine_eq]; show 1 + ms.length ≤ _; omega) fun aa H3 haa f3 aa3 => ?_
  have aa3 : H3 aa = some (.lst (natZ (0 :: ms))) := aa3
  have f13 := (f1.trans f2).trans f3
  have haa0 : H aa = none := (f1.trans f2).none haa
  have hp0 : ∀ k, 0 < k → abF (0 :: ms) k ∈ lkF Lk k ∧ abF (0 :: ms) k < k := fun k hk => by
    by_cases h : k < n + 1
    · obtain ⟨j, rfl⟩ : ∃ j, k = j + 1 := ⟨k - 1, by omega⟩
      obtain ⟨z, hz⟩ : ∃ z, ms[j]? = some z := ⟨_, List.getElem?_eq_getElem (by omega)⟩
      obtain ⟨l, h1, h2, h3⟩ := hms j z hz
      obtain ⟨⟨p, hpm, hpk⟩, _⟩ := hp (j + 1) l hk h1
      have e : abF (0 :: ms) (j + 1) = z := abF_at (by rw [List.getElem?_cons_succ]; exact hz)
      rw [e, lkF_at h1]
      have := h3 p hpm
      exact ⟨h2, by omega⟩
    · rw [abF_out (by rw [List.length_cons]; omega), lkF_out (by omega)]
      exact ⟨List.mem_singleton.mpr rfl, by omega⟩
  have hp0o : ∀ k, n + 1 ≤ k → abF (0 :: ms) k = k - 1 := fun k hk => abF_out (by rw [List.length_cons]; omega)
  obtain ⟨p0, hp0, hp0o, sw0⟩ : ∃ p0, (∀ k, 0 < k → p0 k ∈ lkF Lk k ∧ p0 k < k) ∧ (∀ k, n + 1 ≤ k → p0 k = k - 1) ∧ Swp (lkF Lk) p0 (abF (0 :: ms)) 1 := ⟨abF (0 :: ms), hp0, hp0o, Swp.first hp0⟩
  have hl0 : (0 :: ms).length = n + 1 := by rw [List.length_cons, hml]
  generalize 0 :: ms = l0 at sw0 hl0 aa3
  one_sign
  refine ⟨fun m σ H' => ∃ (l : List Nat) (ch : Bool) (v2 v4 v5 : Option V), σ = [some (.ref la), some (.ref aa), v2, some (.bl ch), v4, v5] ∧ H' aa = some (.lst (natZ l)) ∧ l.length = n + 1 ∧ Swp (lkF Lk) p0 (abF l) 1 ∧ (ch = false → ∀ k, 0 < k → best (lkF Lk) (abF l) k = abF l k) ∧ Fr [] H H' ∧ m = l.sum + ch.toNat,
    ⟨_, l0, true, _, _, _, rfl, aa3, hl0, sw0, fun h => (by cases h), f13, rfl⟩, ?_⟩
  rintro m σ H4 ⟨l, ch, v2, v4, v5, rfl, a4, hl, sw, hfix, f4, rfl⟩
  one_sign
  cases ch with
  | false =>
    one_sign
    exact k aa l H4 haa0 a4 hl sw.lt (fun x d => sw.fix (hfix rfl) x d) f4
  | true =>
    one_sign
    refine ⟨_, fun _ _ z => z, ?_⟩
    have hla4 := f4.g0 hla
    one_sign
    rw [List.length_map, hAl]
    refine z_rng2 n (by omega) ⟨by omega, by omega, by omega, by omega⟩ ?_
    refine for_range (lo := 1) (n := n) (fun i σ H' => ∃ (l' : List Nat) (ch : Bool) (v2 v4 v5 : Option V), σ = [some (.ref la), some (.ref aa), v2, some (.bl ch), v4, v5] ∧ H' aa = some (.lst (natZ l')) ∧ l'.length = n + 1 ∧ Swp (lkF Lk) p0 (abF l') (i + 1) ∧ (ch = false ∧ l' = l ∧ (∀ k, 0 < k → k < i + 1 → best (lkF Lk) (abF l) k = abF l k) ∨ ch = true ∧ l'.sum < l.sum) ∧ Fr [] H H')
      ⟨l, false, _, _, _, rfl, a4, hl, sw, .inl ⟨rfl, rfl, fun k h1 h2 => by omega⟩, f4⟩ (fun i σ H5 hi hI => ?_) (fun σ H5 hI => ?_)
    · obtain ⟨l', ch, v2, v4, v5, rfl, a5, hl', sw', hch, f5⟩ := hI
      rw [show (1 : Int) + (i : Int) = ((i + 1 : Nat) : Int) by omega]
      obtain ⟨b, hb⟩ : ∃ b, A[i + 1]? = some b := ⟨_, List.getElem?_eq_getElem (by omega)⟩
      obtain ⟨l2, hl2⟩ : ∃ l, Lk[i + 1]? = some l := ⟨_, List.getElem?_eq_getElem (by omega)⟩
      obtain ⟨⟨p, hpm, _⟩, hpn⟩ := hp (i + 1) l2 (by omega) hl2
      obtain ⟨x0, hx0⟩ : ∃ x, l2[0]? = some x := ⟨_, List.getElem?_eq_getElem (List.length_pos_iff.mpr fun e => by rw [e] at hpm; cases hpm)⟩
      have hla5 := f5.g0 hla
      have hb5 := f5.g0 (LL.it _ b l2 hb hl2)
      one_sign
      refine z_ixL hla5 (atI_nat (by rw [List.getElem?_map, hb]; rfl)) ?_
      one_sign
      refine z_ixL hb5 (natZ_at (i := 0) hx0) ?_
      one_sign
      refine z_ixL hla5 (atI_nat (by rw [List.getElem?_map, hb]; rfl)) ?_
      one_sign
      refine for_list (K := K) (a := b) (xs := natZ l2) (fun j σ H' => ∃ (bs : Nat) (v5 : Option V), σ = [some (.ref la), some (.ref aa), some (.int ((i + 1 : Nat) : Int)), some (.bl ch), some (.int (bs : Int)), v5] ∧ meetAll (abF l') (l2.drop j) bs = meetAll (abF l') l2 x0 ∧ bs < n + 1 ∧ H' = H5)
        ⟨x0, _, rfl, rfl, by have := hpn x0 (List.mem_of_getElem? hx0); omega, rfl⟩ (fun j σ H' _ hI => ?_) (fun j x σ H6 hx hI => ?_) (fun σ H6 hI => ?_)
      · obtain ⟨_, _, _, _, _, rfl⟩ := hI
        exact SqL.of hb5
      · obtain ⟨bs, v5, rfl, hm, hbs, rfl⟩ := hI
        unfold natZ at hx
        rw [List.getElem?_map] at hx
        obtain ⟨x, hxl, rfl⟩ := Option.map_eq_some_iff.mp hx
        have hxn := hpn x (List.mem_of_getElem? hxl)
        have hdr : l2.drop j = x :: l2.drop (j + 1) := (List.drop_eq_getElem_cons (List.getElem?_eq_some_iff.mp hxl).1).trans (by rw [(List.getElem?_eq_some_iff.mp hxl).2])
        rw [hdr] at hm
        one_sign
        refine ⟨aa, l', bs, x, rfl, a5, by omega, by omega, sw'.lt, ?_⟩
        one_sign
        have := (meet_ok sw'.lt (bs + x) bs x (Nat.le_refl _)).1.le sw'.lt
        exact ⟨_, _, rfl, hm, by omega, rfl⟩
      · obtain ⟨bs, v5, rfl, hm, hbs, rfl⟩ := hI
        rw [List.drop_eq_nil_iff.mpr (by rw [natZ_len]; exact Nat.le_refl _)] at hm
        have hbest : best (lkF Lk) (abF l') (i + 1) = bs := by
          unfold best
          rw [lkF_at hl2, show l2.headD 0 = x0 by rw [List.headD_eq_head?_getD, List.head?_eq_getElem?, hx0]; rfl]
          exact hm.symm
        obtain ⟨hle, sw2⟩ := sw'.step (Nat.succ_pos i)
        rw [hbest] at hle sw2
        one_sign
        refine z_ixL a5 (natZ_at (abF_get (by omega : i + 1 < l'.length))) ?_
        one_sign
        by_cases e : bs = abF l' (i + 1)
        · rw [decide_eq_true (by omega)]
          one_sign
          have ep : put (abF l') (i + 1) bs = abF l' := funext fun x => by
            unfold put
            by_cases h : x = i + 1
            · rw [if_pos h, h, e]
            · rw [if_neg h]
          rw [ep] at sw2
          refine ⟨l', ch, _, _, _, rfl, a5, hl', sw2, ?_, f5⟩
          rcases hch with ⟨h1, h2, h3⟩ | h
          · refine .inl ⟨h1, h2, fun k hk1 hk2 => ?_⟩
            by_cases h : k = i + 1
            · rw [h, ← h2, hbest, e]
            · exact h3 k hk1 (by omega)
          · exact .inr h
        · rw [decide_eq_false (by omega)]
          one_sign
          refine z_setL a5 (ixN_nat (by rw [natZ_len]; omega)) fun H7 f7 h7 n7 => ?_
          one_sign
          rw [natZ_set] at h7
          have hlt : i + 1 < l'.length := by omega
          have hs := sum_set (m := bs) (abF_get hlt)
          refine ⟨l'.set (i + 1) bs, true, _, _, _, rfl, h7, by rw [List.length_set]; exact hl', by rw [abF_set hlt]; exact sw2, .inr ⟨rfl, ?_⟩, f5.in f7 haa0⟩
          have : l'.sum ≤ l.sum := by
            rcases hch with ⟨_, h2, _⟩ | ⟨_, h⟩
            · rw [h2]; exact Nat.le_refl _
            · omega
          omega
    · obtain ⟨l', ch, v2, v4, v5, rfl, a5, hl', sw', hch, f5⟩ := hI
      have sw2 : Swp (lkF Lk) p0 (abF l') 1 := sw'.again fun k hk => by
        by_cases h : k < n + 1
        · exact sw'.S k hk h
        · unfold SS1
          rw [abF_out (by omega), hp0o k (by omega)]
          exact .refl _
      rcases hch with ⟨h1, h2, h3⟩ | ⟨h1, h2⟩
      · subst h1 h2
        exact ⟨_, Nat.lt_succ_self _, l', false, _, _, _, rfl, a5, hl', sw2, fun _ k hk => by
          by_cases h : k < n + 1
          · exact h3 k hk h
          · rw [best_out (by omega), abF_out (by omega)], f5, rfl⟩
      · subst h1
        exact ⟨l'.sum + 1, by show l'.sum + 1 < l.sum + 1; omega, l', true, _, _, _, rfl, a5, hl', sw2, fun h => (by cases h), f5, rfl⟩
end

end LX
namespace LX
open PySem PySem.Spec PyProof.Rows L2 NdefX
def blank (d : Int) (O : List Ob) : List Ob := O.map fun o => if o.num = d then { o with kind := 1, sl := [] } else o
theorem blank_of {d : Int} {O : List Ob} {o : Ob} (h : o ∈ O) (n : o.num ≠ d) : o ∈ blank d O := List.mem_map.mpr ⟨o, h, if_neg n⟩
theorem blank_live {d : Int} {O : List Ob} (n : Int) : Live (blank d O) n ↔ Live O n := by
  unfold blank
  constructor
  · rintro ⟨i, o, h1, h2, h3⟩
    rw [List.getElem?_map] at h1
    obtain ⟨p, hp, e⟩ := Option.map_eq_some_iff.mp h1
    refine ⟨i, p, hp, ?_, ?_⟩
    · rw [← e] at h2; split at h2 <;> exact h2
    · rw [← e] at h3; split at h3 <;> exact h3
  · rintro ⟨i, o, h1, h2, h3⟩
    refine ⟨i, _, by rw [List.getElem?_map, h1]; rfl, ?_, ?_⟩
    · dsimp only; split <;> exact h2
    · dsimp only; split <;> exact h3
/-- an odd word alone stands in what is left out -/
theorem blank_get {d : Int} {O : List Ob} {i : Nat} {o : Ob} {w : Int} (h : (blank d O)[i]? = some o) (hw : w ∈ o.kind :: o.sl) (he : w % 2 = 0) : o.num ≠ d ∧ O[i]? = some o := by
  unfold blank at h
  rw [List.getElem?_map] at h
  obtain ⟨p, hp, e⟩ := Option.map_eq_some_iff.mp h
  by_cases z : p.num = d
  · rw [if_pos z] at e
    subst e
    have : w = 1 := by simpa using hw
    omega
  · rw [if_neg z] at e
    subst e
    exact ⟨z, hp⟩
theorem Reach.mstep {O : List Ob} {rs : List Int} {m w : Int} {o : Ob} (h : Reach O rs m) (ho : o ∈ O) (hl : o.live = true) (hn : o.num = m) (hw : w ∈ o.kind :: o.sl) (he : w % 2 = 0) (hv : Live O (w / 2)) : Reach O rs (w / 2) := by
  obtain ⟨i, hi⟩ := List.getElem?_of_mem ho
  exact .step h hi hl hn hw he hv
theorem Reach.blank_le {d : Int} {O : List Ob} {rs : List Int} {x : Int} (h : Reach (blank d O) rs x) : Reach O rs x := by
  induction h with
  | root h1 h2 h3 => exact .root h1 h2 ((blank_live _).mp h3)
  | step h1 h2 h3 h4 h5 h6 h7 ih => exact .step ih (blank_get h2 h5 h6).2 h3 h4 h5 h6 ((blank_live _).mp h7)
def Dm (O : List Ob) (r0 : List Int) (d x : Int) : Prop := ¬ Reach (blank d O) r0 x
theorem ord_av {O : List Ob} {r0 F : List Int} (hF : Ordr O r0 F) {y : Int} : ∀ (k : Nat) (x : Int), F[k]? = some x → y ∉ F.take k → Reach (blank y O) r0 x := by
  intro k
  induction k using Nat.strongRecOn with
  | ind k ih =>
    intro x hx hy
    obtain ⟨w, he, hw, h⟩ := hF.par k x hx
    have hv : Live (blank y O) (w / 2) := by rw [hw]; exact (blank_live _).mpr ((hF.re x).mp (List.mem_of_getElem? hx)).live
    rcases h with h | ⟨m, hm, o, ho, hlo, hon, hwo⟩
    · rw [← hw]; exact .root h he hv
    · obtain ⟨j, hj⟩ := List.getElem?_of_mem hm
      have hj2 := (List.getElem?_eq_some_iff.mp hj).1
      rw [List.length_take] at hj2
      rw [List.getElem?_take, if_pos (by omega)] at hj
      have hr := ih j (by omega) m hj fun z => hy ((List.take_subset_take_left F (by omega : j ≤ k)) z)
      rw [← hw]
      exact hr.mstep (blank_of ho fun e => hy (by rw [← e, hon]; exact hm)) hlo hon hwo he hv
theorem dm_irr {O : List Ob} {r0 F : List Int} (hF : Ordr O r0 F) {x : Int} (hx : x ∈ F) : ¬ Dm O r0 x x := fun h => by
  obtain ⟨k, hk⟩ := List.getElem?_of_mem hx
  exact h (ord_av hF k x hk (nd_take hF.nd hk))
theorem dm_before {O : List Ob} {r0 F : List Int} (hF : Ordr O r0 F) {k : Nat} {x y : Int} (hx : F[k]? = some x) (h : Dm O r0 y x) : y ∈ F.take k := Classical.byContradiction fun n => h (ord_av hF k x hx n)
section
variable {O : List Ob} {r0 F : List Int} {Lk : List (List Nat)}
theorem lk_iff (Ls : Lsp (r0 :: F.map (rowAt O)) F Lk (F.length + 1) 0) {k : Nat} {x : Int} (hk : F[k]? = some x) (j : Nat) : j ∈ lkF Lk (k + 1) ↔ ∃ r, (r0 :: F.map (rowAt O))[j]? = some r ∧ Hit r x := by
  obtain ⟨l, hl⟩ : ∃ l, Lk[k + 1]? = some l := ⟨_, List.getElem?_eq_getElem (by rw [Ls.len]; have := (List.getElem?_eq_some_iff.mp hk).1; omega)⟩
  rw [lkF_at hl]
  have Ls' : Lsp (r0 :: F.map (rowAt O)) F Lk (r0 :: F.map (rowAt O)).length 0 := by rw [List.length_cons, List.length_map]; exact Ls
  exact Ls'.done hk hl j
theorem av_to (hF : Ordr O r0 F) (nd : (O.map (·.num)).Nodup) (Ls : Lsp (r0 :: F.map (rowAt O)) F Lk (F.length + 1) 0) {i : Nat} {d : Int} (hi : F[i]? = some d) {q : Nat} (a : Av (lkF Lk) (i + 1) q) : ∀ k x, q = k + 1 → F[k]? = some x → i ≠ k ∧ Reach (blank d O) r0 x := by
  induction a with
  | zero => intro k x e; omega
  | @step p q hq a hp hn ih =>
    intro k x e hx
    subst e
    refine ⟨fun z => hn (by omega), ?_⟩
    have hv : Live (blank d O) x := (blank_live _).mpr ((hF.re x).mp (List.mem_of_getElem? hx)).live
    obtain ⟨r, hr, w, hw, he, hx2⟩ := (lk_iff Ls hx p).mp hp
    rw [← hx2] at hv ⊢
    cases p with
    | zero => cases hr; exact .root hw he hv
    | succ p =>
      rw [List.getElem?_cons_succ, List.getElem?_map] at hr
      obtain ⟨n, hn2, rfl⟩ := Option.map_eq_some_iff.mp hr
      obtain ⟨hip, hrn⟩ := ih p n rfl hn2
      obtain ⟨j, o, ho, hlo, hon⟩ := ((hF.re n).mp (List.mem_of_getElem? hn2)).live
      have ho := List.mem_of_getElem? ho
      rw [← hon, rowAt_of nd ho] at hw
      refine hrn.mstep (blank_of ho fun z => hip ?_) hlo hon hw he hv
      rw [hon] at z
      subst z
      exact (List.getElem?_inj (List.getElem?_eq_some_iff.mp hi).1 hF.nd).mp (hi.trans hn2.symm)
theorem av_from (hF : Ordr O r0 F) (nd : (O.map (·.num)).Nodup) (Ls : Lsp (r0 :: F.map (rowAt O)) F Lk (F.length + 1) 0) {i : Nat} {d : Int} (hi : F[i]? = some d) {x : Int} (h : Reach (blank d O) r0 x) : ∀ k, F[k]? = some x → i ≠ k → Av (lkF Lk) (i + 1) (k + 1) := by
  induction h with
  | @root w h1 h2 h3 =>
    intro k hk n
    exact .step (Nat.succ_pos k) (.zero (Nat.succ_ne_zero i)) ((lk_iff Ls hk 0).mpr ⟨r0, rfl, _, h1, h2, rfl⟩) (by omega)
  | @step m w j o h1 h2 h3 h4 h5 h6 h7 ih =>
    intro k hk n
    obtain ⟨hnd, ho⟩ := blank_get h2 h5 h6
    have hm : m ∈ F := (hF.re m).mpr h1.blank_le
    obtain ⟨p, hp⟩ := List.getElem?_of_mem hm
    have hip : i ≠ p := fun z => by
      subst z
      rw [hi] at hp
      exact hnd (by rw [h4]; exact (Option.some.inj hp).symm)
    refine .step (Nat.succ_pos k) (ih p hp hip) ((lk_iff Ls hk (p + 1)).mpr ⟨rowAt O m, by rw [List.getElem?_cons_succ, List.getElem?_map, hp]; rfl, w, ?_, h6, rfl⟩) (by omega)
    rw [← h4, rowAt_of nd (List.mem_of_getElem? ho)]
    exact h5
end
/-- what stands above what, told by the nearest -/
structure Dfor (F : List Int) (D : Int → Int → Prop) (ow : Int → Option Int) : Prop where
  irr : ∀ x ∈ F, ¬ D x x
  tr : ∀ a ∈ F, ∀ b ∈ F, ∀ c ∈ F, D a b → D b c → D a c
  lin : ∀ a ∈ F, ∀ b ∈ F, ∀ c ∈ F, D a c → D b c → a = b ∨ D a b ∨ D b a
  ownN : ∀ x ∈ F, ow x = none → ∀ d ∈ F, ¬ D d x
  ownS : ∀ x ∈ F, ∀ y, ow x = some y → y ∈ F ∧ D y x ∧ ∀ d ∈ F, D d x → d = y ∨ D d y
def ixO : List Int → Int → Nat
  | [], _ => 0
  | a :: l, x => if a = x then 0 else ixO l x + 1
theorem ixO_at {F : List Int} (nd : F.Nodup) {k : Nat} {x : Int} (h : F[k]? = some x) : ixO F x = k := by
  induction F generalizing k with
  | nil => simp at h
  | cons a l ih =>
    obtain ⟨n1, n2⟩ := List.nodup_cons.mp nd
    unfold ixO
    cases k with
    | zero => cases h; rw [if_pos rfl]
    | succ k =>
      have h : l[k]? = some x := by simpa using h
      rw [if_neg fun e => n1 (by rw [e]; exact List.mem_of_getElem? h), ih n2 h]
def owF (F : List Int) (ab : List Nat) (x : Int) : Option Int := if 0 < abF ab (ixO F x + 1) then F[abF ab (ixO F x + 1) - 1]? else none
theorem dfor_of {O : List Ob} {r0 F : List Int} {Lk : List (List Nat)} {ab : List Nat} (hF : Ordr O r0 F) (nd : (O.map (·.num)).Nodup) (Ls : Lsp (r0 :: F.map (rowAt O)) F Lk (F.length + 1) 0) (hab : ∀ k, 0 < k → abF ab k < k) (hA : ∀ k d, Anc (abF ab) d k ↔ ¬ Av (lkF Lk) d k) : Dfor F (Dm O r0) (owF F ab) := by
  have key : ∀ {i k : Nat} {d x : Int}, F[i]? = some d → F[k]? = some x → (Dm O r0 d x ↔ i ≠ k ∧ Anc (abF ab) (i + 1) (k + 1)) := fun {i k d x} hi hk => by
    constructor
    · intro h
      have n : i ≠ k := fun e => by
        subst e
        rw [hi] at hk; cases hk
        exact dm_irr hF (List.mem_of_getElem? hi) h
      exact ⟨n, (hA _ _).mpr fun a => h (av_to hF nd Ls hi a k x rfl hk).2⟩
    · rintro ⟨n, a⟩ r
      exact (hA _ _).mp a (av_from hF nd Ls hi r k hk n)
  have lt : ∀ {i k : Nat}, i ≠ k → Anc (abF ab) (i + 1) (k + 1) → i < k := fun n a => by have := a.le hab; omega
  refine ⟨fun x hx => dm_irr hF hx, fun a ha b hb c hc h1 h2 => ?_, fun a ha b hb c hc h1 h2 => ?_, fun x hx ho d hd h => ?_, fun x hx y ho => ?_⟩
  · obtain ⟨i, hi⟩ := List.getElem?_of_mem ha
    obtain ⟨j, hj⟩ := List.getElem?_of_mem hb
    obtain ⟨k, hk⟩ := List.getElem?_of_mem hc
    obtain ⟨n1, a1⟩ := (key hi hj).mp h1
    obtain ⟨n2, a2⟩ := (key hj hk).mp h2
    have := lt n1 a1
    have := lt n2 a2
    exact (key hi hk).mpr ⟨by omega, a1.trans a2⟩
  · obtain ⟨i, hi⟩ := List.getElem?_of_mem ha
    obtain ⟨j, hj⟩ := List.getElem?_of_mem hb
    obtain ⟨k, hk⟩ := List.getElem?_of_mem hc
    obtain ⟨n1, a1⟩ := (key hi hk).mp h1
    obtain ⟨n2, a2⟩ := (key hj hk).mp h2
    by_cases e : i = j
    · subst e; rw [hi] at hj; exact .inl (Option.some.inj hj)
    · rcases Nat.le_total i j with l | l
      · exact .inr (.inl ((key hi hj).mpr ⟨e, a1.lin hab a2 (by omega)⟩))
      · exact .inr (.inr ((key hj hi).mpr ⟨fun z => e z.symm, a2.lin hab a1 (by omega)⟩))
  · obtain ⟨i, hi⟩ := List.getElem?_of_mem hd
    obtain ⟨k, hk⟩ := List.getElem?_of_mem hx
    obtain ⟨n1, a1⟩ := (key hi hk).mp h
    have a2 := (a1.step (by omega)).2
    have h3 := hab (k + 1) (Nat.succ_pos k)
    have hkl := (List.getElem?_eq_some_iff.mp hk).1
    unfold owF at ho
    rw [ixO_at hF.nd hk] at ho
    by_cases z : 0 < abF ab (k + 1)
    · rw [if_pos z, List.getElem?_eq_getElem (by omega)] at ho; cases ho
    · have := a2.le hab
      omega
  · obtain ⟨k, hk⟩ := List.getElem?_of_mem hx
    have h3 := hab (k + 1) (Nat.succ_pos k)
    unfold owF at ho
    rw [ixO_at hF.nd hk] at ho
    by_cases z : 0 < abF ab (k + 1)
    · rw [if_pos z] at ho
      generalize ej : abF ab (k + 1) - 1 = j at ho
      have ej2 : abF ab (k + 1) = j + 1 := by omega
      refine ⟨List.mem_of_getElem? ho, (key ho hk).mpr ⟨by omega, .up (Nat.succ_pos k) (by rw [ej2]; exact .refl _)⟩, fun d hd h => ?_⟩
      obtain ⟨i, hi⟩ := List.getElem?_of_mem hd
      obtain ⟨n1, a1⟩ := (key hi hk).mp h
      have a2 := (a1.step (by omega)).2
      rw [ej2] at a2
      by_cases e : i = j
      · subst e; rw [hi] at ho; exact .inl (Option.some.inj ho)
      · exact .inr ((key hi ho).mpr ⟨e, a2⟩)
    · rw [if_neg z] at ho; cases ho
/-! ### sums over what is below -/
section
open Classical
noncomputable def Sm (sz : Int → Int) (F : List Int) (p : Int → Prop) : Int := (F.map fun y => if p y then sz y else 0).sum
theorem Sm.congr {sz : Int → Int} {F : List Int} {p q : Int → Prop} (h : ∀ y ∈ F, p y ↔ q y) : Sm sz F p = Sm sz F q := by
  unfold Sm
  congr 1
  refine List.map_congr_left fun y hy => ?_
  by_cases e : p y
  · rw [if_pos e, if_pos ((h y hy).mp e)]
  · rw [if_neg e, if_neg fun z => e ((h y hy).mpr z)]
theorem Sm.or {sz : Int → Int} {F : List Int} {p q : Int → Prop} (h : ∀ y ∈ F, p y → ¬ q y) : Sm sz F (fun y => p y ∨ q y) = Sm sz F p + Sm sz F q := by
  unfold Sm
  induction F with
  | nil => rfl
  | cons a l ih =>
    have ih := ih fun y hy => h y (List.mem_cons_of_mem _ hy)
    have ha := h a List.mem_cons_self
    simp only [List.map_cons, List.sum_cons]
    rw [ih]
    by_cases e1 : p a
    · rw [if_pos (.inl e1), if_pos e1, if_neg (ha e1)]; omega
    · by_cases e2 : q a
      · rw [if_pos (.inr e2), if_neg e1, if_pos e2]; omega
      · rw [if_neg (fun z => z.elim e1 e2), if_neg e1, if_neg e2]; omega
theorem Sm.none {sz : Int → Int} {F : List Int} {p : Int → Prop} (h : ∀ y ∈ F, ¬ p y) : Sm sz F p = 0 := by
  unfold Sm
  induction F with
  | nil => rfl
  | cons a l ih =>
    simp only [List.map_cons, List.sum_cons]
    rw [ih fun y hy => h y (List.mem_cons_of_mem _ hy), if_neg (h a List.mem_cons_self)]
    rfl
theorem Sm.cons {sz : Int → Int} {F : List Int} {p : Int → Prop} {a : Int} : Sm sz (a :: F) p = (if p a then sz a else 0) + Sm sz F p := by unfold Sm; rw [List.map_cons, List.sum_cons]
theorem Sm.one {sz : Int → Int} {F : List Int} (nd : F.Nodup) {x : Int} (hx : x ∈ F) : Sm sz F (fun y => y = x) = sz x := by
  induction F with
  | nil => cases hx
  | cons a l ih =>
    obtain ⟨n1, n2⟩ := List.nodup_cons.mp nd
    rw [Sm.cons]
    rcases List.mem_cons.mp hx with h | h
    · subst h
      rw [if_pos rfl, Sm.none fun y hy z => n1 (by rw [← z]; exact hy)]
      omega
    · rw [if_neg fun z => n1 (by rw [z]; exact h), ih n2 h]
      omega
theorem Sm.all {sz : Int → Int} {F : List Int} {p : Int → Prop} (h : ∀ y ∈ F, p y) : Sm sz F p = (F.map sz).sum := by
  unfold Sm
  congr 1
  exact List.map_congr_left fun y hy => if_pos (h y hy)
/-- one and all below it -/
def Un (D : Int → Int → Prop) (x y : Int) : Prop := y = x ∨ D x y
/-- .. as far as those from t on are done -/
def Cn (F : List Int) (D : Int → Int → Prop) (t : Nat) (z y : Int) : Prop := y = z ∨ (D z y ∧ ∀ d ∈ F, D z d → Un D d y → d ∉ F.take t)
variable {F : List Int} {D : Int → Int → Prop} {ow : Int → Option Int} {sz : Int → Int}
theorem Cn.first {z : Int} : ∀ y ∈ F, (Cn F D F.length z y ↔ y = z) := fun y hy => by
  constructor
  · rintro (h | ⟨h1, h2⟩)
    · exact h
    · exact absurd (by rw [List.take_length]; exact hy) (h2 y hy h1 (.inl rfl))
  · exact .inl
theorem Cn.last {z : Int} (y : Int) : Cn F D 0 z y ↔ Un D z y := by
  constructor
  · rintro (h | ⟨h1, _⟩)
    · exact .inl h
    · exact .inr h1
  · rintro (h | h)
    · exact .inl h
    · exact .inr ⟨h, fun d _ _ _ => by simp⟩
theorem take_mem {F : List Int} {t : Nat} {e d : Int} (he : F[t]? = some e) (hd : d ∈ F.take (t + 1)) (n : d ∉ F.take t) : d = e := by
  rw [List.take_succ, he, List.mem_append] at hd
  rcases hd with h | h
  · exact absurd h n
  · simpa using h
theorem take_in {F : List Int} {t : Nat} {e : Int} (he : F[t]? = some e) : e ∈ F.take (t + 1) := by rw [List.take_succ, he]; simp
theorem take_le {F : List Int} {s t : Nat} {d : Int} (h : d ∈ F.take s) (l : s ≤ t) : d ∈ F.take t := (List.take_subset_take_left F l) h
section
variable (nd : F.Nodup) (df : Dfor F D ow) (hb : ∀ (k : Nat) (x y : Int), F[k]? = some x → y ∈ F → D y x → y ∈ F.take k) {t : Nat} {e : Int} (he : F[t]? = some e)
include nd df hb he
theorem below_late {d : Int} (hd : d ∈ F) (h : D e d) : d ∉ F.take (t + 1) := fun m => by
  obtain ⟨s, hs⟩ := List.getElem?_of_mem m
  have hs2 := (List.getElem?_eq_some_iff.mp hs).1
  rw [List.length_take] at hs2
  rw [List.getElem?_take, if_pos (by omega)] at hs
  exact nd_take nd he (take_le (hb s d e hs (List.mem_of_getElem? he) h) (by omega))
theorem Cn.whole {y : Int} : Cn F D (t + 1) e y ↔ Un D e y := by
  constructor
  · rintro (h | ⟨h1, _⟩)
    · exact .inl h
    · exact .inr h1
  · rintro (h | h)
    · exact .inl h
    · exact .inr ⟨h, fun d hd h1 _ => below_late nd df hb he hd h1⟩
theorem Cn.less {z y : Int} (h : Cn F D (t + 1) z y) : Cn F D t z y := h.imp id fun ⟨h1, h2⟩ => ⟨h1, fun d hd a b m => h2 d hd a b (take_le m (Nat.le_succ t))⟩
theorem Cn.rootstep (ho : ow e = none) {z y : Int} (hz : z ∈ F) : Cn F D t z y ↔ Cn F D (t + 1) z y := by
  refine ⟨fun h => h.imp id fun ⟨h1, h2⟩ => ⟨h1, fun d hd a b m => ?_⟩, Cn.less nd df hb he⟩
  have := take_mem he m (h2 d hd a b)
  subst this
  exact df.ownN d hd ho z hz a
theorem Cn.other {z0 z y : Int} (ho : ow e = some z0) (hz : z ∈ F) (hy : y ∈ F) (n : z ≠ z0) : Cn F D t z y ↔ Cn F D (t + 1) z y := by
  refine ⟨fun h => h.imp id fun ⟨h1, h2⟩ => ⟨h1, fun d hd a b m => ?_⟩, Cn.less nd df hb he⟩
  have := take_mem he m (h2 d hd a b)
  subst this
  obtain ⟨m0, d0, al⟩ := df.ownS d hd z0 ho
  rcases al z hz a with q | q
  · exact n q
  · refine h2 z0 m0 q (.inr ?_) (hb t d z0 he m0 d0)
    rcases b with b | b
    · rw [b]; exact d0
    · exact df.tr z0 m0 d hd y hy d0 b
theorem Cn.mine {z0 y : Int} (ho : ow e = some z0) (hy : y ∈ F) : Cn F D t z0 y ↔ Cn F D (t + 1) z0 y ∨ Un D e y := by
  have hE := List.mem_of_getElem? he
  obtain ⟨m0, d0, al⟩ := df.ownS e hE z0 ho
  constructor
  · rintro (h | ⟨h1, h2⟩)
    · exact .inl (.inl h)
    · by_cases u : Un D e y
      · exact .inr u
      · refine .inl (.inr ⟨h1, fun d hd a b m => ?_⟩)
        have := take_mem he m (h2 d hd a b)
        subst this
        exact u b
  · rintro (h | h)
    · exact Cn.less nd df hb he h
    · have h0 : D z0 y := by
        rcases h with h | h
        · rw [h]; exact d0
        · exact df.tr z0 m0 e hE y hy d0 h
      refine .inr ⟨h0, fun d hd a b m => ?_⟩
      have cmp : d = e ∨ D d e ∨ D e d := by
        rcases b with b | b
        · subst b
          rcases h with h | h
          · exact .inl h
          · exact .inr (.inr h)
        · rcases h with h | h
          · subst h; exact .inr (.inl b)
          · exact df.lin d hd e hE y hy b h
      rcases cmp with c | c | c
      · subst c; exact nd_take nd he m
      · rcases al d hd c with q | q
        · subst q; exact df.irr d hd a
        · exact df.irr z0 m0 (df.tr z0 m0 d hd z0 m0 a q)
      · exact below_late nd df hb he hd c (take_le m (Nat.le_succ t))
theorem Cn.apart {z0 y : Int} (ho : ow e = some z0) (h : Cn F D (t + 1) z0 y) (u : Un D e y) : False := by
  have hE := List.mem_of_getElem? he
  obtain ⟨m0, d0, al⟩ := df.ownS e hE z0 ho
  rcases h with h | ⟨h1, h2⟩
  · subst h
    rcases u with u | u
    · subst u; exact df.irr _ hE d0
    · exact df.irr e hE (df.tr e hE y m0 e hE u d0)
  · exact h2 e hE d0 u (take_in he)
end
/-- what stands under nothing has all below it -/
theorem root_of (df : Dfor F D ow) (hb : ∀ (k : Nat) (x y : Int), F[k]? = some x → y ∈ F → D y x → y ∈ F.take k) : ∀ (k : Nat) (y : Int), F[k]? = some y → ∃ x ∈ F, ow x = none ∧ Un D x y := by
  intro k
  induction k using Nat.strongRecOn with
  | ind k ih =>
    intro y hy
    have hyF := List.mem_of_getElem? hy
    cases e : ow y with
    | none => exact ⟨y, hyF, e, .inl rfl⟩
    | some z =>
      obtain ⟨m0, d0, _⟩ := df.ownS y hyF z e
      obtain ⟨j, hj⟩ := List.getElem?_of_mem (hb k y z hy m0 d0)
      have hj2 := (List.getElem?_eq_some_iff.mp hj).1
      rw [List.length_take] at hj2
      rw [List.getElem?_take, if_pos (by omega)] at hj
      obtain ⟨x, hx, hn, u⟩ := ih j (by omega) z hj
      refine ⟨x, hx, hn, .inr ?_⟩
      rcases u with u | u
      · subst u; exact d0
      · exact df.tr x hx z m0 y hyF u d0
theorem roots_apart (df : Dfor F D ow) {x x' y : Int} (hx : x ∈ F) (hx' : x' ∈ F) (hy : y ∈ F) (n : x ≠ x') (h : ow x = none) (h' : ow x' = none) (u : Un D x y) (u' : Un D x' y) : False := by
  rcases u with u | u
  · subst u
    rcases u' with u' | u'
    · exact n u'
    · exact df.ownN y hy h x' hx' u'
  · rcases u' with u' | u'
    · subst u'; exact df.ownN y hy h' x hx u
    · rcases df.lin x hx x' hx' y hy u u' with q | q | q
      · exact n q
      · exact df.ownN x' hx' h' x hx q
      · exact df.ownN x hx h x' hx' q
end

end LX
namespace LX
open PySem PySem.Spec PyProof.Rows L2 NdefX
set_option hygiene false in
local macro_rules | `(tactic| k_memK) => `(tactic| first | exact W.na_Store_room | exact W.na_Store_entries | exact W.na_Store_words | exact W.na_Store__places | exact W.na_Store__least | exact W.na_Space_store | exact W.na_Space_pressure | exact W.na_Space_always | exact W.na_Space_allocations | exact W.na_Space_collections | exact W.na_Space__roots | exact W.na_Space__held | exact W.na_Space__saved)
set_option hygiene false in
local macro_rules | `(tactic| k_ownIn) => `(tactic| first | exact W.C_Store | exact W.C_Space)
local macro_rules | `(tactic| none_booked) => `(tactic| first | assumption | (refine Fr.g0 (by assumption) ?_; none_booked))
local macro_rules | `(tactic| one_sign) => `(tactic| repeat (first
  | refine Stp.h ?_
  | ((with_reducible refine' z_fld1 ?k0 ?k1 ?k2 ?k3 ?_); (case k0 => none_booked); (case k1 => k_ownIn); (case k2 => k_memK); (case k3 => rfl))
  | ((with_reducible refine' z_meth1 ?k0 ?k1 ?_); (case k0 => none_booked); (case k1 => rfl))
  | ((with_reducible refine' z_bmL ?k0 ?_); (case k0 => none_booked))
  | ((with_reducible refine' z_lenL ?k0 ?_); (case k0 => none_booked))
  | ((with_reducible refine' z_lenT ?k0 ?_); (case k0 => none_booked))
  | ((with_reducible refine' z_lenD ?k0 ?_); (case k0 => none_booked))
  | ((with_reducible refine' z_truL ?k0 ?_); (case k0 => none_booked))
  | ((with_reducible refine' z_truD ?k0 ?_); (case k0 => none_booked))
  | ((with_reducible refine' z_truT ?k0 ?_); (case k0 => none_booked))
  | ((with_reducible refine' z_inDIP ?k0 ?_); (case k0 => none_booked))
  | ((with_reducible refine' z_inDIN ?k0 ?_); (case k0 => none_booked))
  | ((with_reducible refine' z_inDfP ?k0 ?_); (case k0 => none_booked))
  | ((with_reducible refine' z_inDfN ?k0 ?_); (case k0 => none_booked))
  | ((with_reducible refine' z_iList1 ?k0 ?_); (case k0 => none_booked))
  | ((with_reducible refine' z_isi0 ?k0 ?k1 ?k2 ?_); (case k0 => exact (ClsV.ty _)); (case k1 => exact (TyX.base (TyOf.lst (by none_booked)))); (case k2 => first | exact kt_list_int | exact kt_list_bool | exact kt_list_str | exact kt_list_list | exact kt_list_tuple | exact kt_list_dict))
  | ((with_reducible refine' z_rI ?k0 ?_); (case k0 => first | exact (by decide : (0 : Int) < _) | exact ⟨by decide, by decide⟩ | exact ⟨by decide, by decide, by decide⟩ | (show (0 : Int) < _; omega)))
  | ((with_reducible refine' z_mulI ?k0 ?_); (case k0 => first | exact Or.inr ⟨by decide, by decide⟩ | exact Or.inl ⟨by decide, by decide⟩ | exact Or.inl ⟨by omega, by omega⟩ | exact Or.inr ⟨by omega, by omega⟩))))
local macro_rules | `(tactic| leaf_len) => `(tactic| (simp only [wipe, List.map_cons, List.map_nil, List.set_cons_zero, List.set_cons_succ]; one_sign; refine z_ok rfl ?_; one_sign))
def ovV : Option Int → V
  | none => .non
  | some y => .int y
/-- a dict of what is in order -/
def mK (F : List Int) (g : Int → V) : List (Key × V) := F.map fun n => (.inl n, g n)
theorem mK_keys (F : List Int) (g : Int → V) : (mK F g).map (·.1) = F.map Sum.inl := by unfold mK; rw [List.map_map]; rfl
theorem mK_val {F : List Int} (nd : F.Nodup) {g : Int → V} {n : Int} (h : n ∈ F) : valV (mK F g) (.inl n) = some (g n) :=
  mem_valV (by rw [mK_keys]; exact inl_nd nd) (List.mem_map.mpr ⟨n, h, rfl⟩)
theorem mK_none {F : List Int} {g : Int → V} {n : Int} (h : n ∉ F) : valV (mK F g) (.inl n) = none := by
  cases e : valV (mK F g) (.inl n) with
  | none => rfl
  | some v =>
    have : (Sum.inl n : Key) ∈ (mK F g).map (·.1) := List.mem_map.mpr ⟨_, val_mem e, rfl⟩
    rw [mK_keys] at this
    obtain ⟨m, hm, e⟩ := List.mem_map.mp this
    cases e
    exact absurd hm h
theorem mK_some (F : List Int) (nd : F.Nodup) (g : Int → V) (n : Int) : (valV (mK F g) (.inl n)).isSome = decide (n ∈ F) := by
  by_cases h : n ∈ F
  · rw [mK_val nd h, decide_eq_true h]; rfl
  · rw [mK_none h, decide_eq_false h]; rfl
theorem mK_new {F : List Int} {g : Int → V} {n : Int} (h : n ∉ F) : putK (mK F g) (.inl n) (g n) = mK (F ++ [n]) g := by
  rw [putK_new _ (mK_none h)]
  unfold mK
  rw [List.map_append]
  rfl
theorem mK_congr {F : List Int} {g g' : Int → V} (h : ∀ n ∈ F, g n = g' n) : mK F g = mK F g' := List.map_congr_left fun n hn => by rw [h n hn]
theorem mK_put {F : List Int} {g : Int → V} {n : Int} {v : V} (h : n ∈ F) : putK (mK F g) (.inl n) v = mK F (fun m => if m = n then v else g m) := by
  have ha : ((mK F g).any fun kv => decide (kv.1 = Sum.inl n)) = true := List.any_eq_true.mpr ⟨(.inl n, g n), List.mem_map.mpr ⟨n, h, rfl⟩, by simp⟩
  unfold putK
  rw [if_pos ha]
  unfold mK
  rw [List.map_map]
  refine List.map_congr_left fun m _ => ?_
  show (if (Sum.inl m : Key) = Sum.inl n then ((Sum.inl m : Key), v) else (Sum.inl m, g m)) = (Sum.inl m, if m = n then v else g m)
  by_cases e : m = n
  · rw [if_pos (by rw [e]), if_pos e]
  · rw [if_neg (fun z => e (Sum.inl.inj z)), if_neg e]
theorem mK_new2 {F : List Int} {g : Int → V} {n : Int} {v : V} (h : n ∉ F) : putK (mK F g) (.inl n) v = mK (F ++ [n]) (fun m => if m = n then v else g m) := by
  rw [mK_congr (g' := fun m => if m = n then v else g m) fun m hm => by rw [if_neg fun z => h (by rw [← z]; exact hm)]]
  have := mK_new (g := fun m => if m = n then v else g m) h
  rw [if_pos rfl] at this
  exact this
section
variable {P : Program} {w : World} {K : PySem.W.Frag} {mg : Str → Option Value} {base : Heap}
def sp_owners (C CS PT : Addr) : Sp := fun vs H Q _ => ∃ sp X O rs hs, vs = [.ref sp] ∧ Spc C CS PT H sp X O rs hs ∧
  ∀ D F ow H', H D = none → H' D = some (.dK (mK F fun n => ovV (ow n))) → Ordr O (0 :: (rs ++ hs)) F → Dfor F (Dm O (0 :: (rs ++ hs))) ow → Fr [] H H' → Q (.ref D) H'
theorem ok_owners (W : WT P K mg base) : FnOk P w K mg base CX0 5 W.f_owners W.fd_owners ["space"] (sp_owners W.c_Store W.c_Space W.PT_Store_close_up) := by
  refine W.F_owners.ok sc_owners (fun vs H Q E h => by obtain ⟨sp, X, O, rs, hs, rfl, S0, k⟩ := h; rfl) (fun cdv A outer s H vs Q E hr h => ?_)
  obtain ⟨sp, X, O, rs, hs, rfl, S0, k⟩ := h
  have hu1 := hu_of hr
  have hu64 := hu64_of hr
  refine ⟨_, (pss_cons (ps_set (i := 1) sc_owners.nd rfl (by first | exact Or.inl rfl | exact Or.inr rfl) (pe_callTy (call_listDU rfl) (by rfl) W.n_list bb_list (pa_cons (pe_call (ok_paths W) (hr.mono (by decide)) rfl W.g_paths W.F_paths.kp W.b_paths .nil pass0 (pa_cons (pv 0) pa_nil)) pa_nil)))
      (pss_cons (ps_set (i := 2) sc_owners.nd rfl (by first | exact Or.inl rfl | exact Or.inr rfl) (pe_call (ok_places_above W) (hr.mono (by decide)) rfl W.g_places_above W.F_places_above.kp W.b_places_above .nil pass0 (pa_cons (pe_call (ok_links_into W) (hr.mono (by decide)) rfl W.g_links_into W.F_links_into.kp W.b_links_into .nil pass0 (pa_cons (pv 0) (pa_cons (pv 1) pa_nil))) pa_nil)))
      (pss_cons (ps_set (i := 3) sc_owners.nd rfl (by first | exact Or.inl rfl | exact Or.inr rfl) pe_dnewK)
      (pss_cons (ps_for PassesOwn.never rfl (pi_range1 (by rfl) W.n_range (pa_cons (pe_callB call_lenU (by rfl) W.n_len bb_len (pa_cons (pv 1) pa_nil)) pa_nil)) (pg_name (i := 4) sc_owners.nd rfl (by first | exact Or.inl rfl | exact Or.inr rfl)) (pss_cons (ps_dput hu1 (pv 3) (pe_ix (ix_U hu1) (pv 1) (pv 4) (fun _ _ => rfl)) pe_non rfl)
      (pss_one (ps_if (pt_cmpR op_gtU (pe_ix (ix_U hu1) (pv 2) (pe_op op_addU (pv 4) pe_int) (fun _ _ => rfl)) pe_int (by first | exact nomark _ | rfl)) (pss_one (ps_dput hu1 (pv 3) (pe_ix (ix_U hu1) (pv 1) (pv 4) (fun _ _ => rfl)) (pe_ix (ix_U hu1) (pv 1) (pe_op op_sub (pe_ix (ix_U hu1) (pv 2) (pe_op op_addU (pv 4) pe_int) (fun _ _ => rfl)) pe_int) (fun _ _ => rfl)) rfl)) pss_nil))))
      (pss_one (ps_ret (pv 3))))))), ?_⟩
  refine z_start (σ := [some _, none, none, none, none]) rfl ?_
  one_sign
  refine ⟨sp, X, O, rs, hs, rfl, S0, fun D F FD H1 hD D1 hFD hF f1 => ?_⟩
  have hOl : O.length ≤ 1300 := by
    obtain ⟨dxs, st, dx, wl, pl, pr, rt, hd, al, co, least, kvs, rfl, ss⟩ := S0
    exact ss.len
  have hnd : (O.map (·.num)).Nodup := by
    obtain ⟨dxs, st, dx, wl, pl, pr, rt, hd, al, co, least, kvs, rfl, ss⟩ := S0
    exact ss.nd
  have hFO : F.length ≤ O.length := live_len hF.nd fun n hn => ((hF.re n).mp hn).live
  one_sign
  refine z_listD D1 fun oa H2 hoa f2 oa2 => ?_
  have hFD2 : (fK FD).map (fun kv => kV kv.1) = F.map V.int := by
    rw [← hFD]
    unfold fK
    rw [List.map_map, List.map_map]
    rfl
  rw [hFD2] at oa2
  have f12 := f1.trans f2
  have S2 := S0.keep f12
  one_sign
  refine ⟨sp, X, O, rs, hs, oa, F, rfl, S2, oa2, hF, fun la A Lk H3 hla la3 LL Ls f3 => ?_⟩
  one_sign
  refine ⟨la, A, Lk, F.length, rfl, la3, LL, Ls.len, by omega, fun k l hk hl => ?_, fun aa ab H4 haa aa4 hab hlt hA f4 => ?_⟩
  · obtain ⟨k, rfl⟩ : ∃ j, k = j + 1 := ⟨k - 1, by omega⟩
    have hkl := (List.getElem?_eq_some_iff.mp hl).1
    rw [Ls.len] at hkl
    obtain ⟨x, hx⟩ : ∃ x, F[k]? = some x := ⟨_, List.getElem?_eq_getElem (by omega)⟩
    have iff := fun j => lk_iff Ls hx j
    rw [lkF_at hl] at iff
    refine ⟨?_, fun p hp => by have := ((Ls.nd l (List.mem_of_getElem? hl)).2 p hp); obtain ⟨r, hr, _⟩ := (iff p).mp hp; have := (List.getElem?_eq_some_iff.mp hr).1; rw [List.length_cons, List.length_map] at this; omega⟩
    obtain ⟨w, he, hw, h⟩ := hF.par k x hx
    rcases h with h | ⟨m, hm, o, ho, hlo, hon, hwo⟩
    · exact ⟨0, (iff 0).mpr ⟨_, rfl, w, h, he, hw⟩, Nat.succ_pos k⟩
    · obtain ⟨j, hj⟩ := List.getElem?_of_mem hm
      have hj2 := (List.getElem?_eq_some_iff.mp hj).1
      rw [List.length_take] at hj2
      rw [List.getElem?_take, if_pos (by omega)] at hj
      exact ⟨j + 1, (iff (j + 1)).mpr ⟨rowAt O m, by rw [List.getElem?_cons_succ, List.getElem?_map, hj]; rfl, w, by rw [← hon, rowAt_of hnd ho]; exact hwo, he, hw⟩, by omega⟩
  have df := dfor_of hF hnd Ls hlt hA
  have oa4 := f4.g0 (f3.g0 oa2)
  have hf14 := (f12.trans f3).trans f4
  one_sign
  intro D2 H5 hD2 f5 D25
  have oa5 := f5.g0 oa4
  have aa5 := f5.g0 aa4
  have f15 := hf14.trans f5
  have hD20 : H D2 = none := hf14.none hD2
  one_sign
  rw [List.length_map]
  refine z_rng1 F.length rfl (by omega) ?_
  refine for_range (lo := 0) (n := F.length) (fun i σ H' => ∃ (v4 : Option V), σ = [some (.ref sp), some (.ref oa), some (.ref aa), some (.ref D2), v4] ∧ H' D2 = some (.dK (mK (F.take i) fun n => ovV (owF F ab n))) ∧ Fr [D2] H5 H')
    ⟨_, rfl, D25, Fr.rfl'⟩ (fun i σ H6 hi hI => ?_) (fun σ H6 hI => ?_)
  · obtain ⟨v4, rfl, D26, f6⟩ := hI
    obtain ⟨n, hn⟩ : ∃ n, F[i]? = some n := ⟨_, List.getElem?_eq_getElem hi⟩
    have oa6 := f6.g oa5 (nin (ne_of oa5 D25 (by intro z; cases z)))
    have aa6 := f6.g aa5 (nin (ne_of aa5 D25 (by intro z; cases z)))
    simp only [Int.zero_add]
    one_sign
    refine z_ixL oa6 (atI_nat (int_at hn)) ?_
    one_sign
    refine z_dputI D26 (by unfold mK; rw [List.length_map, List.length_take, sizeLine_eq]; omega) fun H7 f7 D27 n7 => ?_
    rw [mK_new2 (nd_take hF.nd hn)] at D27
    have oa7 := f7.g oa6 (nin (ne_of oa5 D25 (by intro z; cases z)))
    have aa7 := f7.g aa6 (nin (ne_of aa5 D25 (by intro z; cases z)))
    have ht : F.take (i + 1) = F.take i ++ [n] := by rw [List.take_succ, hn]; rfl
    have ea : abF ab (i + 1) = abF ab (ixO F n + 1) := by rw [ixO_at hF.nd hn]
    have eo : owF F ab n = if 0 < abF ab (i + 1) then F[abF ab (i + 1) - 1]? else none := by unfold owF; rw [← ea]
    one_sign
    refine z_ixL aa7 (by rw [show (i : Int) + 1 = ((i + 1 : Nat) : Int) by omega]; exact natZ_at (abF_get (by omega : i + 1 < ab.length))) ?_
    one_sign
    have hlt2 := hlt (i + 1) (Nat.succ_pos i)
    by_cases h : 0 < abF ab (i + 1)
    · rw [if_pos h] at eo
      obtain ⟨y, hy⟩ : ∃ y, F[abF ab (i + 1) - 1]? = some y := ⟨_, List.getElem?_eq_getElem (by omega)⟩
      rw [hy] at eo
      refine iteD (fun _ => ?_) (fun h2 => absurd (show (0 : Int) < (abF ab (i + 1) : Int) by omega) h2)
      one_sign
      refine z_ixL aa7 (by rw [show (i : Int) + 1 = ((i + 1 : Nat) : Int) by omega]; exact natZ_at (abF_get (by omega : i + 1 < ab.length))) ?_
      one_sign
      refine z_ixL oa7 (by rw [show (abF ab (i + 1) : Int) - 1 = ((abF ab (i + 1) - 1 : Nat) : Int) by omega]; exact atI_nat (int_at hy)) ?_
      one_sign
      refine z_ixL oa7 (atI_nat (int_at hn)) ?_
      one_sign
      refine z_dputI D27 (by unfold mK; rw [List.length_map, List.length_append, List.length_take, sizeLine_eq]; show _ + 1 < _; omega) fun H8 f8 D28 n8 => ?_
      one_sign
      refine ⟨_, rfl, ?_, (f6.trans f7).trans f8⟩
      rw [mK_put (by simp)] at D28
      rw [D28, ht]
      refine congrArg (fun z => some (HO.dK z)) (mK_congr fun m hm => ?_)
      by_cases e : m = n
      · rw [if_pos e, e, eo]; rfl
      · rw [if_neg e, if_neg e]
    · rw [if_neg h] at eo
      refine iteD (fun h2 => absurd (show (0 : Int) < (abF ab (i + 1) : Int) from h2) (by omega)) (fun _ => ?_)
      one_sign
      refine ⟨_, rfl, ?_, f6.trans f7⟩
      rw [D27, ht]
      refine congrArg (fun z => some (HO.dK z)) (mK_congr fun m hm => ?_)
      by_cases e : m = n
      · rw [if_pos e, e, eo]; rfl
      · rw [if_neg e]
  · obtain ⟨v4, rfl, D26, f6⟩ := hI
    rw [List.take_length] at D26
    one_sign
    exact k D2 F _ H6 hD20 D26 hF df (f15.in f6 hD20)
end

end LX
namespace LX
open PySem PySem.Spec PyProof.Rows L2 NdefX
set_option hygiene false in
local macro_rules | `(tactic| k_memK) => `(tactic| first | exact W.na_Store_room | exact W.na_Store_entries | exact W.na_Store_words | exact W.na_Store__places | exact W.na_Store__least | exact W.na_Space_store | exact W.na_Space_pressure | exact W.na_Space_always | exact W.na_Space_allocations | exact W.na_Space_collections | exact W.na_Space__roots | exact W.na_Space__held | exact W.na_Space__saved)
set_option hygiene false in
local macro_rules | `(tactic| k_ownIn) => `(tactic| first | exact W.C_Store | exact W.C_Space)
local macro_rules | `(tactic| none_booked) => `(tactic| first | assumption | (refine Fr.g0 (by assumption) ?_; none_booked))
local macro_rules | `(tactic| one_sign) => `(tactic| repeat (first
  | refine Stp.h ?_
  | ((with_reducible refine' z_fld1 ?k0 ?k1 ?k2 ?k3 ?_); (case k0 => none_booked); (case k1 => k_ownIn); (case k2 => k_memK); (case k3 => rfl))
  | ((with_reducible refine' z_meth1 ?k0 ?k1 ?_); (case k0 => none_booked); (case k1 => rfl))
  | ((with_reducible refine' z_bmL ?k0 ?_); (case k0 => none_booked))
  | ((with_reducible refine' z_lenL ?k0 ?_); (case k0 => none_booked))
  | ((with_reducible refine' z_lenT ?k0 ?_); (case k0 => none_booked))
  | ((with_reducible refine' z_lenD ?k0 ?_); (case k0 => none_booked))
  | ((with_reducible refine' z_truL ?k0 ?_); (case k0 => none_booked))
  | ((with_reducible refine' z_truD ?k0 ?_); (case k0 => none_booked))
  | ((with_reducible refine' z_truT ?k0 ?_); (case k0 => none_booked))
  | ((with_reducible refine' z_inDIP ?k0 ?_); (case k0 => none_booked))
  | ((with_reducible refine' z_inDIN ?k0 ?_); (case k0 => none_booked))
  | ((with_reducible refine' z_inDfP ?k0 ?_); (case k0 => none_booked))
  | ((with_reducible refine' z_inDfN ?k0 ?_); (case k0 => none_booked))
  | ((with_reducible refine' z_iList1 ?k0 ?_); (case k0 => none_booked))
  | ((with_reducible refine' z_isi0 ?k0 ?k1 ?k2 ?_); (case k0 => exact (ClsV.ty _)); (case k1 => exact (TyX.base (TyOf.lst (by none_booked)))); (case k2 => first | exact kt_list_int | exact kt_list_bool | exact kt_list_str | exact kt_list_list | exact kt_list_tuple | exact kt_list_dict))
  | ((with_reducible refine' z_rI ?k0 ?_); (case k0 => first | exact (by decide : (0 : Int) < _) | exact ⟨by decide, by decide⟩ | exact ⟨by decide, by decide, by decide⟩ | (show (0 : Int) < _; omega)))
  | ((with_reducible refine' z_mulI ?k0 ?_); (case k0 => first | exact Or.inr ⟨by decide, by decide⟩ | exact Or.inl ⟨by decide, by decide⟩ | exact Or.inl ⟨by omega, by omega⟩ | exact Or.inr ⟨by omega, by omega⟩))))
local macro_rules | `(tactic| leaf_len) => `(tactic| (simp only [wipe, List.map_cons, List.map_nil, List.set_cons_zero, List.set_cons_succ]; one_sign; refine z_ok rfl ?_; one_sign))
theorem for_rev {K : PySem.W.Frag} {a : Addr} {xs : List V} {g : TG} {tb : TS} {D : Ends} {σ : L2.St} {H : Hp} (Pv : Nat → L2.St → Hp → Prop) (h0 : Pv 0 σ H) (hl : ∀ i σ H, Pv i σ H → SqL K H a xs)
    (hs : ∀ i x σ H, i < xs.length → xs[xs.length - 1 - i]? = some x → Pv i σ H → g x σ H fun σ2 H2 => tb { D with nx := Pv (i + 1), ct := Pv (i + 1), bk := D.nx } σ2 H2) (hd : ∀ σ H, Pv xs.length σ H → D.nx σ H) :
    ∃ W : Nat → Nat → L2.St → Hp → Prop, (∃ m, W 0 m σ H) ∧ ∀ i m σ H, W i m σ H →
      ((Itv K a xs.length).stop i H ∧ D.nx σ H) ∨ ((Itv K a xs.length).go i H ∧ ∃ N : L2.St → Hp → Prop, (∀ σ' H', N σ' H' → ∃ m', m' < m ∧ W (i + 1) m' σ' H') ∧ ∀ x H', (Itv K a xs.length).yld i H x H' → g x σ H' fun σ2 H2 => tb { D with nx := N, ct := N, bk := D.nx } σ2 H2) := by
  refine ⟨fun i m σ H => m = xs.length - i ∧ i ≤ xs.length ∧ Pv i σ H, ⟨xs.length, by simp, Nat.zero_le _, h0⟩, ?_⟩
  rintro i m σ H ⟨rfl, hi, p⟩
  by_cases hlt : i < xs.length
  · have hx : ∃ x, xs[xs.length - 1 - i]? = some x := ⟨_, List.getElem?_eq_getElem (by omega)⟩
    obtain ⟨x0, hx⟩ := hx
    refine .inr ⟨⟨hlt, xs, x0, hl i σ H p, hx⟩, Pv (i + 1), fun σ' H' p' => ⟨xs.length - (i + 1), by omega, rfl, hlt, p'⟩, fun x H' y => ?_⟩
    obtain ⟨e, y⟩ := y
    subst e
    exact hs i x σ _ hlt (y xs (hl i σ _ p)) p
  · have e : i = xs.length := by omega
    subst e
    exact .inl ⟨Nat.le_refl _, hd σ H p⟩
theorem szf_of {O : List Ob} (nd : (O.map (·.num)).Nodup) {o : Ob} (ho : o ∈ O) (hl : o.live = true) : szf O o.num = 3 + (o.sl.length : Int) := by
  have : O.find? (fun p => p.live && decide (p.num = o.num)) = some o := by
    induction O with
    | nil => cases ho
    | cons a r ih =>
      rw [List.map_cons, List.nodup_cons] at nd
      rcases List.mem_cons.mp ho with e | e
      · subst e; rw [List.find?_cons_of_pos (by simp [hl])]
      · rw [List.find?_cons_of_neg (by
          simp only [Bool.and_eq_true, decide_eq_true_eq, not_and]
          intro _ z
          exact nd.1 (by rw [z]; exact List.mem_map.mpr ⟨o, e, rfl⟩)), ih nd.2 e]
  unfold szf
  rw [this]
section
variable {P : Program} {w : World} {K : PySem.W.Frag} {mg : Str → Option Value} {base : Heap}
def sp_retw (C CS PT : Addr) : Sp := fun vs H Q _ => ∃ sp X O rs hs, vs = [.ref sp] ∧ Spc C CS PT H sp X O rs hs ∧
  ∀ D F (wt : Int → Int) ow H', H D = none → H' D = some (.dK (mK F fun n => .int (wt n))) → Ordr O (0 :: (rs ++ hs)) F → Dfor F (Dm O (0 :: (rs ++ hs))) ow → (∀ x ∈ F, wt x = Sm (szf O) F (Un (Dm O (0 :: (rs ++ hs))) x)) → Fr [] H H' → Q (.ref D) H'
theorem Ordr.perm {O : List Ob} {r0 F F' : List Int} (h : Ordr O r0 F) (h' : Ordr O r0 F') (x : Int) : x ∈ F ↔ x ∈ F' := (h.re x).trans (h'.re x).symm
theorem Dfor.perm {F F' : List Int} {D : Int → Int → Prop} {ow : Int → Option Int} (d : Dfor F D ow) (h : ∀ x, x ∈ F ↔ x ∈ F') : Dfor F' D ow :=
  ⟨fun x hx => d.irr x ((h x).mpr hx), fun a ha b hb c hc => d.tr a ((h a).mpr ha) b ((h b).mpr hb) c ((h c).mpr hc), fun a ha b hb c hc => d.lin a ((h a).mpr ha) b ((h b).mpr hb) c ((h c).mpr hc), fun x hx ho e he => d.ownN x ((h x).mpr hx) ho e ((h e).mpr he), fun x hx y ho => by
    obtain ⟨h1, h2, h3⟩ := d.ownS x ((h x).mpr hx) y ho
    exact ⟨(h y).mp h1, h2, fun e he => h3 e ((h e).mpr he)⟩⟩
theorem ok_retained_words (W : WT P K mg base) : FnOk P w K mg base CX0 6 W.f_retained_words W.fd_retained_words ["space"] (sp_retw W.c_Store W.c_Space W.PT_Store_close_up) := by
  refine W.F_retained_words.ok sc_retained_words (fun vs H Q E h => by obtain ⟨sp, X, O, rs, hs, rfl, S0, k⟩ := h; rfl) (fun cdv A outer s H vs Q E hr h => ?_)
  obtain ⟨sp, X, O, rs, hs, rfl, S0, k⟩ := h
  have hu1 := hu_of hr
  have hu64 := hu64_of hr
  refine ⟨_, (pss_cons (ps_set (i := 1) sc_retained_words.nd rfl (by first | exact Or.inl rfl | exact Or.inr rfl) (pe_callTy (call_listDU rfl) (by rfl) W.n_list bb_list (pa_cons (pe_call (ok_paths W) (hr.mono (by decide)) rfl W.g_paths W.F_paths.kp W.b_paths .nil pass0 (pa_cons (pv 0) pa_nil)) pa_nil)))
      (pss_cons (ps_set (i := 2) sc_retained_words.nd rfl (by first | exact Or.inl rfl | exact Or.inr rfl) (pe_call (ok_owners W) (hr.mono (by decide)) rfl W.g_owners W.F_owners.kp W.b_owners .nil pass0 (pa_cons (pv 0) pa_nil)))
      (pss_cons (ps_setDc (i := 3) (own := [("number", 4)]) (g := gName 4) (tt := tYes) rfl sc_retained_words.nd rfl rfl (swd_true rfl rfl rfl (by decide +kernel)) (pi_list (pv 1)) (blkOk_by (N := N_retained_words) (sc := defScope s_retained_words) (by decide +kernel)) (fun _ _ _ _ _ => (pg_name (i := 4) sc_retained_words.nd rfl (by first | exact Or.inl rfl | exact Or.inr rfl))) (fun _ _ _ _ _ => pts_nil) (fun _ _ _ _ _ => (pv 4)) (fun _ _ _ _ _ => (pe_op (op_addUK (K := K) rfl) pe_int (pe_meth (pe_fldK (K := K) rfl (pv 0) rfl) W.C_Store W.m_Store_size (ok_Store_size W) (hr.mono (by decide)) W.b_Store_size .nil pass0 (pa_cons (pv 4) pa_nil)))))
      (pss_cons (ps_for PassesOwn.never rfl (pi_reversed (by rfl) W.n_reversed (pa_cons (pv 1) pa_nil)) (pg_name (i := 4) sc_retained_words.nd rfl (by first | exact Or.inl rfl | exact Or.inr rfl)) (pss_one (ps_if (pt_cmpR op_isnotU (pe_ix (ix_U hu1) (pv 2) (pv 4) (fun _ _ => rfl)) pe_non (by first | exact nomark _ | rfl)) (pss_one (ps_dput hu1 (pv 3) (pe_ix (ix_U hu1) (pv 2) (pv 4) (fun _ _ => rfl)) (pe_op op_addU (pe_ix (ix_U hu1) (pv 3) (pe_ix (ix_U hu1) (pv 2) (pv 4) (fun _ _ => rfl)) (fun _ _ => rfl)) (pe_ix (ix_U hu1) (pv 3) (pv 4) (fun _ _ => rfl))) rfl)) pss_nil)))
      (pss_one (ps_ret (pv 3))))))), ?_⟩
  refine z_start (σ := [some _, none, none, none, none]) rfl ?_
  one_sign
  refine ⟨sp, X, O, rs, hs, rfl, S0, fun D0 F FD H1 hD D1 hFD hF f1 => ?_⟩
  obtain ⟨dxs, st, dx, wl, pl, pr, rt, hd, al, co, least, kvs, rfl, ss⟩ := S0
  have hOl := ss.len
  have hnd := ss.nd
  have hFO : F.length ≤ O.length := live_len hF.nd fun n hn => ((hF.re n).mp hn).live
  one_sign
  refine z_listD D1 fun oa H2 hoa f2 oa2 => ?_
  have hFD2 : (fK FD).map (fun kv => kV kv.1) = F.map V.int := by
    rw [← hFD]
    unfold fK
    rw [List.map_map, List.map_map]
    rfl
  rw [hFD2] at oa2
  have f12 := f1.trans f2
  one_sign
  refine ⟨sp, _, O, rs, hs, rfl, ⟨dxs, st, dx, wl, pl, pr, rt, hd, al, co, least, kvs, rfl, ss.keep f12⟩, fun D3 F3 ow H3 hD3 D33 hF3 df3 f3 => ?_⟩
  generalize 0 :: (rs ++ hs) = r0 at k hF hF3 df3
  have df : Dfor F (Dm O r0) ow := df3.perm fun x => hF3.perm hF x
  have oa3 := f3.g0 oa2
  have f13 := f12.trans f3
  have ss3 := ss.keep f13
  one_sign
  refine z_dcL oa3 (fun i kvs H' => kvs = mK (F.take i) fun n => .int (szf O n)) (fun _ _ => rfl) (fun R i x kvs' H4 hR hx hi e hxs f4 => ?_) (fun D kvs' H4 hD4 e hD44 f4 => ?_)
  · subst e
    rw [List.getElem?_map] at hx
    obtain ⟨n, hn, rfl⟩ := Option.map_eq_some_iff.mp hx
    obtain ⟨j, o, ho, hlo, hon⟩ := ((hF.re n).mp (List.mem_of_getElem? hn)).live
    subst hon
    have ss4 := ss3.keep f4
    have hsp4 := ss4.S.sp
    have hst4 := ss4.T.st
    leaf_len
    refine ⟨st, dx, wl, pl, _, _, least, _, kvs, o.num, off O j, _, rfl, ss4.T, ss4.G.at ho hlo, flat_size ho, ?_⟩
    one_sign
    refine z_dcY hR hxs f4 (by unfold mK; rw [List.length_map, List.length_take, sizeLine_eq]; rw [List.length_map] at hi; omega) fun H6 _ _ => ?_
    show putK _ _ _ = _
    rw [List.take_succ, hn]
    have := mK_new (g := fun n => V.int (szf O n)) (nd_take hF.nd hn)
    rw [← szf_of hnd (List.mem_of_getElem? ho) hlo]
    exact this
  subst e
  rw [List.length_map, List.take_length] at hD44
  have oa4 := f4.g0 oa3
  have D34 := f4.g0 D33
  have f14 := f13.trans f4
  have hD0 : H D = none := f13.none hD4
  have hD34 : D3 ≠ D := fun z => by rw [z] at D33; rw [D33] at hD4; cases hD4
  one_sign
  have hb : ∀ (k : Nat) (x y : Int), F[k]? = some x → y ∈ F → Dm O r0 y x → y ∈ F.take k := fun k x y hx _ h => dm_before hF hx h
  refine ⟨_, rfl, oa, F.map V.int, rfl, SqL.of oa4, ?_⟩
  refine for_rev (fun i σ H' => ∃ (v4 : Option V) (wt : Int → Int), σ = [some (.ref sp), some (.ref oa), some (.ref D3), some (.ref D), v4] ∧ H' D = some (.dK (mK F fun n => .int (wt n))) ∧ (∀ x ∈ F, wt x = Sm (szf O) F (Cn F (Dm O r0) (F.length - i) x)) ∧ Fr [D] H4 H' ∧ i ≤ F.length)
    ⟨_, szf O, rfl, hD44, fun x hx => by rw [Nat.sub_zero, Sm.congr Cn.first, Sm.one hF.nd hx], Fr.rfl', Nat.zero_le _⟩ (fun i σ H' hI => ?_) (fun i x σ H5 hi hx hI => ?_) (fun σ H5 hI => ?_)
  · obtain ⟨_, _, _, _, _, g, _⟩ := hI
    exact SqL.of (g.g oa4 (nin (ne_of oa4 hD44 (by intro z; cases z))))
  · obtain ⟨v4, wt, rfl, D5, hwt, g5, hiF⟩ := hI
    rw [List.length_map] at hi hx
    rw [List.getElem?_map] at hx
    obtain ⟨e, he, rfl⟩ := Option.map_eq_some_iff.mp hx
    generalize ht : F.length - 1 - i = t at he
    rw [show F.length - i = t + 1 by omega] at hwt
    have et : F.length - (i + 1) = t := by omega
    have hE := List.mem_of_getElem? he
    have hE3 : e ∈ F3 := (hF3.perm hF e).mpr hE
    have D35 := g5.g D34 (nin hD34)
    one_sign
    refine z_ixD D35 (mK_val hF3.nd hE3) ?_
    one_sign
    cases ho : ow e with
    | none =>
      show if (!decide (ovV none = V.non)) = true then _ else _
      one_sign
      exact ⟨_, wt, rfl, D5, fun x hx => by rw [hwt x hx, et]; exact Sm.congr fun y _ => (Cn.rootstep hF.nd df hb he ho hx).symm, g5, by omega⟩
    | some z0 =>
      obtain ⟨m0, d0, al⟩ := df.ownS e hE z0 ho
      show if (!decide (ovV (some z0) = V.non)) = true then _ else _
      rw [decide_eq_false (by intro z; cases z)]
      have hov : valV (mK F3 fun n => ovV (ow n)) (.inl e) = some (.int z0) := by rw [mK_val hF3.nd hE3, ho]; rfl
      one_sign
      refine z_ixD D35 hov ?_
      one_sign
      refine z_ixD D5 (mK_val hF.nd m0) ?_
      one_sign
      refine z_ixD D5 (mK_val hF.nd hE) ?_
      one_sign
      refine z_ixD D35 hov ?_
      one_sign
      refine z_dputI D5 (by unfold mK; rw [List.length_map, sizeLine_eq]; omega) fun H6 f6 D6 n6 => ?_
      rw [mK_put m0] at D6
      one_sign
      refine ⟨_, fun m => if m = z0 then wt z0 + wt e else wt m, rfl, ?_, fun x hx => ?_, g5.trans f6, by omega⟩
      · rw [D6]
        refine congrArg (fun z => some (HO.dK z)) (mK_congr fun m hm => ?_)
        by_cases h : m = z0
        · rw [if_pos h]; exact congrArg V.int (if_pos h).symm
        · rw [if_neg h]; exact congrArg V.int (if_neg h).symm
      · rw [et]
        show (if x = z0 then wt z0 + wt e else wt x) = _
        by_cases h : x = z0
        · subst h
          rw [if_pos rfl, hwt x hx, hwt e hE, Sm.congr (p := Cn F (Dm O r0) (t + 1) e) fun y _ => Cn.whole hF.nd df hb he, ← Sm.or fun y _ h u => Cn.apart hF.nd df hb he ho h u]
          exact Sm.congr fun y hy => (Cn.mine hF.nd df hb he ho hy).symm
        · rw [if_neg h, hwt x hx]
          exact Sm.congr fun y hy => (Cn.other hF.nd df hb he ho hx hy h).symm
  · obtain ⟨v4, wt, rfl, D5, hwt, g5, hiF⟩ := hI
    rw [List.length_map, Nat.sub_self] at hwt
    one_sign
    exact k D F wt ow H5 hD0 D5 hF df (fun x hx => by rw [hwt x hx]; exact Sm.congr fun y _ => Cn.last y) (f14.in g5 hD0)
end

end LX
namespace LX
open PySem PySem.Spec PyProof.Rows L2 NdefX
/-- the law's rows by their numbers -/
def dR (A : List Addr) (O : List Ob) : List (Key × V) := (O.zip A).map fun z => (.inl z.1.num, .ref z.2)
theorem dR_len {A : List Addr} {O : List Ob} (h : A.length = O.length) : (dR A O).length = O.length := by unfold dR; rw [List.length_map, List.length_zip, h, Nat.min_self]
theorem dR_at {A : List Addr} {O : List Ob} {i : Nat} {k : Key} {v : V} (h : (dR A O)[i]? = some (k, v)) : ∃ o a, O[i]? = some o ∧ A[i]? = some a ∧ k = .inl o.num ∧ v = .ref a := by
  unfold dR at h
  rw [List.getElem?_map] at h
  obtain ⟨z, hz, e⟩ := Option.map_eq_some_iff.mp h
  obtain ⟨h1, h2⟩ := List.getElem?_zip_eq_some.mp hz
  cases e
  exact ⟨z.1, z.2, h1, h2, rfl, rfl⟩
theorem dR_keys {A : List Addr} {O : List Ob} (h : A.length = O.length) : (dR A O).map (·.1) = (O.map (·.num)).map Sum.inl := by
  unfold dR
  rw [List.map_map, List.map_map]
  have : ∀ (O : List Ob) (A : List Addr), A.length = O.length → (O.zip A).map ((·.1) ∘ fun z : Ob × Addr => ((.inl z.1.num, .ref z.2) : Key × V)) = O.map ((Sum.inl : Int → Key) ∘ (·.num)) := by
    intro O
    induction O with
    | nil => intro A _; rfl
    | cons o r ih => intro A h; cases A with
      | nil => simp at h
      | cons a t => rw [List.zip_cons_cons, List.map_cons, List.map_cons, ih t (by simpa using h)]; rfl
  exact this O A h
theorem dR_val {A : List Addr} {O : List Ob} {i : Nat} {o : Ob} {a : Addr} (hl : A.length = O.length) (nd : (O.map (·.num)).Nodup) (ho : O[i]? = some o) (ha : A[i]? = some a) : valV (dR A O) (.inl o.num) = some (.ref a) := by
  refine mem_valV (by rw [dR_keys hl]; exact inl_nd nd) ?_
  unfold dR
  exact List.mem_map.mpr ⟨(o, a), List.mem_of_getElem? (i := i) (List.getElem?_zip_eq_some.mpr ⟨ho, ha⟩), rfl⟩
theorem dR_some {A : List Addr} {O : List Ob} (hl : A.length = O.length) (n : Int) : (valV (dR A O) (.inl n)).isSome = true ↔ n ∈ O.map (·.num) := by
  have hk := dR_keys hl
  constructor
  · intro h
    obtain ⟨v, hv⟩ := Option.isSome_iff_exists.mp h
    have : (Sum.inl n : Key) ∈ (dR A O).map (·.1) := List.mem_map.mpr ⟨_, val_mem hv, rfl⟩
    rw [hk] at this
    obtain ⟨m, hm, e⟩ := List.mem_map.mp this
    cases e
    exact hm
  · intro h
    have : (Sum.inl n : Key) ∈ (dR A O).map (·.1) := by rw [hk]; exact List.mem_map.mpr ⟨n, h, rfl⟩
    obtain ⟨v, hv⟩ := mem_val this
    rw [hv]; rfl
structure Rws (H : Hp) (d wd : Addr) (A : List Addr) (O : List Ob) (ws : List Int) : Prop where
  d : H d = some (.dK (dR A O))
  rows : RwL H A (O.map rowOf)
  wd : H wd = some (.lst (ws.map V.int))
  nd : (O.map (·.num)).Nodup
  lv : ∀ o ∈ O, o.live = true
theorem Rws.len {H : Hp} {d wd : Addr} {A : List Addr} {O : List Ob} {ws : List Int} (r : Rws H d wd A O ws) : A.length = O.length := by rw [r.rows.len, List.length_map]
theorem Rws.keep {H H' : Hp} {d wd : Addr} {A : List Addr} {O : List Ob} {ws : List Int} (r : Rws H d wd A O ws) (f : Fr [] H H') : Rws H' d wd A O ws := ⟨f.g0 r.d, r.rows.mono f, f.g0 r.wd, r.nd, r.lv⟩
theorem Rws.live {H : Hp} {d wd : Addr} {A : List Addr} {O : List Ob} {ws : List Int} (r : Rws H d wd A O ws) (n : Int) : Live O n ↔ n ∈ O.map (·.num) := by
  constructor
  · rintro ⟨i, o, h1, _, h3⟩
    exact List.mem_map.mpr ⟨o, List.mem_of_getElem? h1, h3⟩
  · intro h
    obtain ⟨o, ho, e⟩ := List.mem_map.mp h
    obtain ⟨i, hi⟩ := List.getElem?_of_mem ho
    exact ⟨i, o, hi, r.lv o ho, e⟩
theorem Rws.un {H : Hp} {d wd : Addr} {A : List Addr} {O : List Ob} {ws : List Int} (r : Rws H d wd A O ws) {i j : Nat} {o p : Ob} (h1 : O[i]? = some o) (h2 : O[j]? = some p) (e : o.num = p.num) : i = j := by
  have nd := r.nd
  have hi := (List.getElem?_eq_some_iff.mp h1).1
  refine (List.getElem?_inj (l := O.map (·.num)) (by rw [List.length_map]; exact hi) nd).mp ?_
  rw [List.getElem?_map, List.getElem?_map, h1, h2]
  show some o.num = some p.num
  rw [e]
section
variable {P : Program} {w : World} {K : PySem.W.Frag} {mg : Str → Option Value} {base : Heap}
end

end LX
namespace LX
open PySem PySem.Spec PyProof.Rows L2 NdefX
set_option hygiene false in
local macro_rules | `(tactic| k_memK) => `(tactic| first | exact W.na_Store_room | exact W.na_Store_entries | exact W.na_Store_words | exact W.na_Store__places | exact W.na_Store__least | exact W.na_Space_store | exact W.na_Space_pressure | exact W.na_Space_always | exact W.na_Space_allocations | exact W.na_Space_collections | exact W.na_Space__roots | exact W.na_Space__held | exact W.na_Space__saved)
set_option hygiene false in
local macro_rules | `(tactic| k_ownIn) => `(tactic| first | exact W.C_Store | exact W.C_Space)
local macro_rules | `(tactic| none_booked) => `(tactic| first | assumption | (refine Fr.g0 (by assumption) ?_; none_booked))
local macro_rules | `(tactic| one_sign) => `(tactic| repeat (first
  | refine Stp.h ?_
  | ((with_reducible refine' z_fld1 ?k0 ?k1 ?k2 ?k3 ?_); (case k0 => none_booked); (case k1 => k_ownIn); (case k2 => k_memK); (case k3 => rfl))
  | ((with_reducible refine' z_meth1 ?k0 ?k1 ?_); (case k0 => none_booked); (case k1 => rfl))
  | ((with_reducible refine' z_bmL ?k0 ?_); (case k0 => none_booked))
  | ((with_reducible refine' z_lenL ?k0 ?_); (case k0 => none_booked))
  | ((with_reducible refine' z_lenT ?k0 ?_); (case k0 => none_booked))
  | ((with_reducible refine' z_lenD ?k0 ?_); (case k0 => none_booked))
  | ((with_reducible refine' z_truL ?k0 ?_); (case k0 => none_booked))
  | ((with_reducible refine' z_truD ?k0 ?_); (case k0 => none_booked))
  | ((with_reducible refine' z_truT ?k0 ?_); (case k0 => none_booked))
  | ((with_reducible refine' z_inDIP ?k0 ?_); (case k0 => none_booked))
  | ((with_reducible refine' z_inDIN ?k0 ?_); (case k0 => none_booked))
  | ((with_reducible refine' z_inDfP ?k0 ?_); (case k0 => none_booked))
  | ((with_reducible refine' z_inDfN ?k0 ?_); (case k0 => none_booked))
  | ((with_reducible refine' z_iList1 ?k0 ?_); (case k0 => none_booked))
  | ((with_reducible refine' z_isi0 ?k0 ?k1 ?k2 ?_); (case k0 => exact (ClsV.ty _)); (case k1 => exact (TyX.base (TyOf.lst (by none_booked)))); (case k2 => first | exact kt_list_int | exact kt_list_bool | exact kt_list_str | exact kt_list_list | exact kt_list_tuple | exact kt_list_dict))
  | ((with_reducible refine' z_rI ?k0 ?_); (case k0 => first | exact (by decide : (0 : Int) < _) | exact ⟨by decide, by decide⟩ | exact ⟨by decide, by decide, by decide⟩ | (show (0 : Int) < _; omega)))
  | ((with_reducible refine' z_mulI ?k0 ?_); (case k0 => first | exact Or.inr ⟨by decide, by decide⟩ | exact Or.inl ⟨by decide, by decide⟩ | exact Or.inl ⟨by omega, by omega⟩ | exact Or.inr ⟨by omega, by omega⟩))))
local macro_rules | `(tactic| leaf_len) => `(tactic| (simp only [wipe, List.map_cons, List.map_nil, List.set_cons_zero, List.set_cons_succ]; one_sign; refine z_ok rfl ?_; one_sign))
theorem refs_one (x : Int) : refs [x] = if x % 2 = 0 then [x / 2] else [] := by rw [refs_cons]; rfl
section
variable {g : TG} {σ : L2.St} {H : Hp}
theorem z_forF {D : Ends} {td : TE} {tb : TS} {d : Addr} {od : Obj} {kvs : List (Key × V)} (htd : ∀ R : VK, R (.ref d) H → td σ H R) (hd : H d = some (.frz od (.dK kvs))) (Pv : Nat → L2.St → Hp → Prop)
    (h0 : Pv 0 σ H) (hk : ∀ i σ' H', Pv i σ' H' → H' d = some (.frz od (.dK kvs)))
    (hs : ∀ i k v σ' H', kvs[i]? = some (k, v) → i < kvs.length → Pv i σ' H' → H' d = some (.frz od (.dK kvs)) → g (kV k) σ' H' fun σ2 H2 => tb { D with nx := Pv (i + 1), ct := Pv (i + 1), bk := D.nx } σ2 H2)
    (he : ∀ σ' H', Pv kvs.length σ' H' → D.nx σ' H') : tFor (iKeys td) g tb D σ H := by
  refine htd _ ⟨d, od, rfl, Or.inl ⟨kvs, hd, ?_⟩⟩
  refine ⟨fun i m σ' H' => m = kvs.length - i ∧ i ≤ kvs.length ∧ Pv i σ' H', ⟨kvs.length, by simp, Nat.zero_le _, h0⟩, ?_⟩
  rintro i m σ' H' ⟨rfl, hi, p⟩
  by_cases hlt : i < kvs.length
  · refine .inr ⟨⟨hk _ _ _ p, hlt⟩, Pv (i + 1), fun σ'' H'' p' => ⟨kvs.length - (i + 1), by omega, rfl, hlt, p'⟩, fun x H'' y => ?_⟩
    obtain ⟨e, k, v, hk2, ex⟩ := y
    subst e ex
    exact hs i k v σ' _ hk2 hlt p (hk _ _ _ p)
  · have e : i = kvs.length := by omega
    subst e
    exact .inl ⟨⟨hk _ _ _ p, Nat.le_refl _⟩, he σ' H' p⟩
/-- a comprehension over a dict that is locked already -/
theorem z_lcF {tt : TT} {te td : TE} {vs : List Nat} {d : Addr} {od : Obj} {kvs : List (Key × V)} {Q : VK} (htd : ∀ R : VK, R (.ref d) H → td σ H R) (hd : H d = some (.frz od (.dK kvs))) (Pv : Nat → List V → Hp → Prop)
    (h0 : ∀ R H', H R = none → Fr [] H H' → Pv 0 [] H')
    (hs : ∀ R i k v xs H', H R = none → kvs[i]? = some (k, v) → i < kvs.length → xs.length ≤ i → Pv i xs H' → H' R = some (.lst xs) → Fr [] H H' → g (kV k) (wipe σ vs) H' fun σ2 H2 => wipe σ2 vs = wipe σ vs ∧ tt σ2 H2 fun b H3 =>
      if b = true then te σ2 H3 fun y H4 => LcY H R Pv (i + 1) y H4 else LcI H R Pv (i + 1) H3)
    (he : ∀ R xs H', H R = none → Pv kvs.length xs H' → xs.length ≤ kvs.length → H' R = some (.lst xs) → Fr [] H H' → Q (.ref R) H') :
    iKeys td σ H (fun J H1 => oLc J g tt te vs σ H1 Q) := by
  refine htd _ ⟨d, od, rfl, Or.inl ⟨kvs, hd, fun R hR => ?_⟩⟩
  refine ⟨fun i m H' => m = kvs.length - i ∧ i ≤ kvs.length ∧ LcI H R Pv i H', ⟨kvs.length, by simp, Nat.zero_le _, [], Nat.le_refl _, h0 R _ hR (Fr.new hR), upd_same, Fr.new hR⟩, ?_⟩
  rintro i m H' ⟨rfl, hi, xs, hl, p, hx, f⟩
  by_cases hlt : i < kvs.length
  · refine .inr ⟨⟨f.g0 hd, hlt⟩, fun H' => LcI H R Pv (i + 1) H', fun H'' p' => ⟨kvs.length - (i + 1), by omega, rfl, hlt, p'⟩, fun x H'' y => ?_⟩
    obtain ⟨e, k, v, hk, ex⟩ := y
    subst e ex
    exact hs R i k v xs _ hR hk hlt hl p hx f
  · have e : i = kvs.length := by omega
    subst e
    exact .inl ⟨⟨f.g0 hd, Nat.le_refl _⟩, he R xs H' hR p hl hx f⟩
end
theorem blank_id {d : Int} {O : List Ob} (h : ∀ o ∈ O, o.num ≠ d) : blank d O = O := by
  unfold blank
  exact (List.map_congr_left (g := fun o => o) fun o ho => if_neg (h o ho)).trans (List.map_id' _)
theorem blank_at {d : Int} {O : List Ob} {i : Nat} {o : Ob} (h : O[i]? = some o) : (blank d O)[i]? = some (if o.num = d then { o with kind := 1, sl := [] } else o) := by unfold blank; rw [List.getElem?_map, h]; rfl
section
variable {P : Program} {w : World} {K : PySem.W.Frag} {mg : Str → Option Value} {base : Heap}
def sp_lreach : Sp := fun vs H Q _ => ∃ d wd A O ws lo, vs = [.ref d, .ref wd, .int lo] ∧ Rws H d wd A O ws ∧ (∀ o ∈ O, o.sl.length ≤ 99) ∧ O.length ≤ 80 ∧ ws.length ≤ 41 ∧
  ∀ D F H', H D = none → H' D = some (.dK (dF F)) → F.Nodup → (∀ n, n ∈ F ↔ Reach (blank lo O) (0 :: ws) n) → Fr [] H H' → Q (.ref D) H'
theorem ok__law_reached (W : WT P K mg base) : FnOk P w K mg base CX0 1 W.f__law_reached W.fd__law_reached ["_law_rows_here", "_law_words", "_law_left_out"] sp_lreach := by
  refine W.F__law_reached.ok sc__law_reached (fun vs H Q E h => by obtain ⟨d, wd, A, O, ws, lo, rfl, R, sz, hO, hws, k⟩ := h; rfl) (fun cdv A outer s H vs Q E hr h => ?_)
  obtain ⟨d, wd, A, O, ws, lo, rfl, R, sz, hO, hws, k⟩ := h
  have hu1 := hu_of hr
  have hu64 := hu64_of hr
  refine ⟨_, (pss_cons (ps_set (i := 3) sc__law_reached.nd rfl (by first | exact Or.inl rfl | exact Or.inr rfl) pe_dnewK)
      (pss_cons (ps_set (i := 4) sc__law_reached.nd rfl (by first | exact Or.inl rfl | exact Or.inr rfl) (pe_op op_addU (pe_lst (pa_cons pe_int pa_nil)) (pv 1)))
      (pss_cons (ps_while PassesOwn.never (pt_truth (pv 4) (by intro _; rfl)) (pss_cons (ps_set (i := 5) sc__law_reached.nd rfl (by first | exact Or.inl rfl | exact Or.inr rfl) (pe_bm0 PySem.F.plainAttrs_list PySem.F.slot_list_pop PySem.F.type_list_pop mt_pop (pv 4) ))
      (pss_cons (ps_set (i := 6) sc__law_reached.nd rfl (by first | exact Or.inl rfl | exact Or.inr rfl) (pe_op op_fdivW (pv 5) pe_int))
      (pss_one (ps_if (PW.pt (pw_and (pt_cmpR (op_eqU hu64) (pe_op op_mod (pe_callTy call_intU (by rfl) W.n_int bb_int (pa_cons (pv 5) pa_nil)) pe_int) pe_int (by first | exact nomark _ | rfl)) (pw_and (pt_cmpR (op_inU hu1) (pv 6) (pv 0) (by first | exact nomark _ | rfl)) (pw_and1 (pt_cmpR (op_ninU hu1) (pv 6) (pv 3) (by first | exact nomark _ | rfl)))))) (pss_cons (ps_dput hu1 (pv 3) (pv 6) pe_bl rfl)
      (pss_one (ps_if (pt_cmpR (op_neU hu64) (pv 6) (pv 2) (by first | exact nomark _ | rfl)) (pss_one (ps_expr (pe_bm PySem.F.plainAttrs_list PySem.F.slot_list_extend PySem.F.type_list_extend mt_extend (pv 4) (pa_cons (pe_ix (ix_U hu1) (pv 0) (pv 6) (fun _ _ => rfl)) pa_nil)))) pss_nil))) pss_nil)))))
      (pss_one (ps_ret (pv 3)))))), ?_⟩
  refine z_start (σ := [some _, some _, some _, none, none, none, none]) rfl ?_
  one_sign
  intro D H1 hD f1 D1
  have hwd1 := f1.g0 R.wd
  one_sign
  refine z_newL (by show 1 ≤ sizeLine; decide) fun q H2 hq f2 q2 => ?_
  one_sign
  refine z_addL q2 (f2.g0 hwd1) (by rw [List.length_map, sizeLine_eq]; show 1 + ws.length ≤ _; omega) fun wA H3 hwA f3 w3 => ?_
  one_sign
  have w3 : H3 wA = some (.lst ((0 :: ws).map V.int)) := w3
  have f13 := (f1.trans f2).trans f3
  have hwA0 : H wA = none := (f1.trans f2).none hwA
  have nDw : D ≠ wA := ne_of ((f2.trans f3).g0 D1) w3 (by intro z; cases z)
  have blen : (blank lo O).length = O.length := by unfold blank; rw [List.length_map]
  refine ⟨fun m σ H' => ∃ (F ys : List Int) (v5 v6 : Option V), σ = [some (.ref d), some (.ref wd), some (.int lo), some (.ref D), some (.ref wA), v5, v6] ∧ H' D = some (.dK (dF F)) ∧ H' wA = some (.lst (ys.map V.int)) ∧ Fr [] H H' ∧ Srch (blank lo O) (0 :: ws) F (refs ys) none ∧ m = (O.length - F.length) * 102 + ys.length ∧ m ≤ 50000,
    ⟨_, [], 0 :: ws, _, _, rfl, (f2.trans f3).g0 D1, w3, f13, Srch.start _ _, rfl, by simp only [List.length_nil, List.length_cons]; omega⟩, ?_⟩
  rintro m σ H4 ⟨F, ys, v5, v6, rfl, hD4, hw4, f4, sr, rfl, hm5⟩
  one_sign
  cases hW : ys with
  | nil =>
    subst hW
    refine iteF ?_
    one_sign
    exact k D F H4 hD hD4 sr.nd (fun n => sr.done n) f4
  | cons y0 ys0 =>
    have hlast : ∃ n, ys[ys.length - 1]? = some n := ⟨_, List.getElem?_eq_getElem (by rw [hW]; simp)⟩
    rw [← hW]
    obtain ⟨x, hx⟩ := hlast
    have hdl := drop_last hx
    generalize hws' : ys.dropLast = ys' at hdl
    have hl : ys.length = ys'.length + 1 := by rw [hdl, List.length_append]; rfl
    refine iteNE (by rw [hW]; simp) ?_
    refine ⟨_, fun _ _ z => z, ?_⟩
    one_sign
    refine z_pop hw4 (by rw [List.length_map]; exact int_at hx) fun H5 f5 h5 n5 => ?_
    rw [← List.map_dropLast, hws'] at h5
    have D5 := f5.g hD4 (by simpa using nDw)
    have f5' := f4.in f5 hwA0
    have R5 := R.keep f5'
    have d5 := R5.d
    rw [hdl, refs_app', refs_one] at sr
    have stop : ∀ v6 : Option V, Srch (blank lo O) (0 :: ws) F (refs ys') none → ∃ m', m' < (O.length - F.length) * 102 + ys.length ∧ ∃ (F' ys2 : List Int) (v5' v6' : Option V), [some (V.ref d), some (.ref wd), some (.int lo), some (.ref D), some (.ref wA), some (.int x), v6] = [some (V.ref d), some (.ref wd), some (.int lo), some (.ref D), some (.ref wA), v5', v6'] ∧ H5 D = some (.dK (dF F')) ∧ H5 wA = some (.lst (ys2.map V.int)) ∧ Fr [] H H5 ∧ Srch (blank lo O) (0 :: ws) F' (refs ys2) none ∧ m' = (O.length - F'.length) * 102 + ys2.length ∧ m' ≤ 50000 := fun v4 sr' =>
      ⟨(O.length - F.length) * 102 + ys'.length, by omega, F, ys', _, v4, rfl, D5, h5, f5', sr', rfl, by omega⟩
    one_sign
    refine iteD (fun he => ?_) (fun he => ?_)
    · one_sign
      rw [if_pos he] at sr
      cases e : (valV (dR A O) (.inl (x / 2))).isSome with
      | false =>
        one_sign
        exact stop _ (sr.pop (Or.inr fun z => by rw [(dR_some R.len _).mpr ((R.live _).mp ((blank_live _).mp z))] at e; cases e))
      | true =>
        one_sign
        rw [dF_val]
        by_cases hF : x / 2 ∈ F
        · rw [if_pos hF]
          one_sign
          exact stop _ (sr.pop (Or.inl hF))
        rw [if_neg hF]
        one_sign
        have hlv := (R.live _).mpr ((dR_some R.len _).mp e)
        have sr2 := sr.find hF ((blank_live _).mpr hlv)
        obtain ⟨i, o, ho, hlo, hon⟩ := hlv
        rw [← hon] at sr2 hF ⊢
        have so := sz o (List.mem_of_getElem? ho)
        have hFl : F.length + 1 ≤ O.length := by
          have := live_len sr2.nd fun m hm => (sr2.fr m hm).live
          rw [List.length_append, blen] at this
          exact this
        obtain ⟨a, ha⟩ : ∃ a, A[i]? = some a := ⟨_, List.getElem?_eq_getElem (by rw [R.len]; exact (List.getElem?_eq_some_iff.mp ho).1)⟩
        refine z_dputI D5 (by unfold dF; rw [List.length_map, sizeLine_eq]; omega) fun H6 f6 D6 n6 => ?_
        rw [dF_put hF] at D6
        have w6 := f6.g h5 (by simpa using nDw.symm)
        have f6' := f5'.in f6 hD
        have R6 := R.keep f6'
        have d6 := R6.d
        have bo := blank_at (d := lo) ho
        have bu : ∀ (o' : Ob), (blank lo O)[i]? = some o' → ∀ (j : Nat) (q : Ob), (blank lo O)[j]? = some q → q.live = true → q.num = o.num → q = o' := fun o' ho' j q h1 h2 h3 => by
          unfold blank at h1
          rw [List.getElem?_map] at h1
          obtain ⟨p, hp, e⟩ := Option.map_eq_some_iff.mp h1
          have : p.num = o.num := by rw [← h3, ← e]; split <;> rfl
          have := R.un hp ho this
          subst this
          have h1 : (blank lo O)[j]? = some q := by unfold blank; rw [List.getElem?_map, hp, ← e]; rfl
          rw [h1] at ho'
          exact Option.some.inj ho'
        one_sign
        have nm : ∀ o', (blank lo O)[i]? = some o' → o'.num = o.num ∧ o'.live = true := fun o' h => by
          rw [bo] at h
          cases h
          split
          · exact ⟨rfl, hlo⟩
          · exact ⟨rfl, hlo⟩
        have srR : ∀ o', (blank lo O)[i]? = some o' → Srch (blank lo O) (0 :: ws) (F ++ [o.num]) (refs ys' ++ refs (o'.kind :: o'.sl)) none := fun o' h => by
          obtain ⟨n1, n2⟩ := nm o' h
          have s3 := sr2.words h n2 n1 (sr2.fr _ (List.mem_append_right _ (by simp)))
          exact s3.all (i := i) (o := o') fun j q h1 h2 h3 => bu o' h j q h1 h2 h3
        by_cases elo : o.num = lo
        · rw [decide_eq_true elo]
          one_sign
          have s4 := srR _ bo
          rw [if_pos elo] at s4
          have s4 : Srch (blank lo O) (0 :: ws) (F ++ [o.num]) (refs ys') none := by
            rw [show refs ((1 : Int) :: []) = [] from by rw [refs_one, if_neg (by decide)], List.append_nil] at s4
            exact s4
          exact ⟨(O.length - (F ++ [o.num]).length) * 102 + ys'.length, by rw [List.length_append]; simp only [List.length_cons, List.length_nil]; omega, F ++ [o.num], ys', _, _, rfl, D6, w6, f6', s4, rfl, by rw [List.length_append]; simp only [List.length_cons, List.length_nil]; omega⟩
        · rw [decide_eq_false elo]
          one_sign
          refine z_ixD d6 (dR_val R.len R.nd ho ha) ?_
          one_sign
          have a6 := R6.rows.it i a _ ha (by rw [List.getElem?_map, ho]; rfl)
          have rl : (rowOf o).length = o.sl.length + 1 := rfl
          refine z_extend w6 a6 (by rw [List.length_map, List.length_map, rl, sizeLine_eq]; omega) fun H7 f7 w7 n7 => ?_
          rw [← List.map_append] at w7
          have s4 := srR _ bo
          rw [if_neg elo, ← refs_app'] at s4
          exact ⟨(O.length - (F ++ [o.num]).length) * 102 + (ys' ++ rowOf o).length, by rw [List.length_append, List.length_append, rl]; simp only [List.length_cons, List.length_nil]; omega, F ++ [o.num], ys' ++ rowOf o, _, _, rfl, f7.g D6 (by simpa using nDw), w7, f6'.in f7 hwA0, s4, rfl, by rw [List.length_append, List.length_append, rl]; simp only [List.length_cons, List.length_nil]; omega⟩
    · one_sign
      rw [if_neg he, List.append_nil] at sr
      exact stop _ sr
end

end LX
namespace LX
open PySem PySem.Spec PyProof.Rows L2 NdefX
set_option hygiene false in
local macro_rules | `(tactic| k_memK) => `(tactic| first | exact W.na_Store_room | exact W.na_Store_entries | exact W.na_Store_words | exact W.na_Store__places | exact W.na_Store__least | exact W.na_Space_store | exact W.na_Space_pressure | exact W.na_Space_always | exact W.na_Space_allocations | exact W.na_Space_collections | exact W.na_Space__roots | exact W.na_Space__held | exact W.na_Space__saved)
set_option hygiene false in
local macro_rules | `(tactic| k_ownIn) => `(tactic| first | exact W.C_Store | exact W.C_Space)
local macro_rules | `(tactic| none_booked) => `(tactic| first | assumption | (refine Fr.g0 (by assumption) ?_; none_booked))
local macro_rules | `(tactic| one_sign) => `(tactic| repeat (first
  | refine Stp.h ?_
  | ((with_reducible refine' z_fld1 ?k0 ?k1 ?k2 ?k3 ?_); (case k0 => none_booked); (case k1 => k_ownIn); (case k2 => k_memK); (case k3 => rfl))
  | ((with_reducible refine' z_meth1 ?k0 ?k1 ?_); (case k0 => none_booked); (case k1 => rfl))
  | ((with_reducible refine' z_bmL ?k0 ?_); (case k0 => none_booked))
  | ((with_reducible refine' z_lenL ?k0 ?_); (case k0 => none_booked))
  | ((with_reducible refine' z_lenT ?k0 ?_); (case k0 => none_booked))
  | ((with_reducible refine' z_lenD ?k0 ?_); (case k0 => none_booked))
  | ((with_reducible refine' z_truL ?k0 ?_); (case k0 => none_booked))
  | ((with_reducible refine' z_truD ?k0 ?_); (case k0 => none_booked))
  | ((with_reducible refine' z_truT ?k0 ?_); (case k0 => none_booked))
  | ((with_reducible refine' z_inDIP ?k0 ?_); (case k0 => none_booked))
  | ((with_reducible refine' z_inDIN ?k0 ?_); (case k0 => none_booked))
  | ((with_reducible refine' z_inDfP ?k0 ?_); (case k0 => none_booked))
  | ((with_reducible refine' z_inDfN ?k0 ?_); (case k0 => none_booked))
  | ((with_reducible refine' z_iList1 ?k0 ?_); (case k0 => none_booked))
  | ((with_reducible refine' z_isi0 ?k0 ?k1 ?k2 ?_); (case k0 => exact (ClsV.ty _)); (case k1 => exact (TyX.base (TyOf.lst (by none_booked)))); (case k2 => first | exact kt_list_int | exact kt_list_bool | exact kt_list_str | exact kt_list_list | exact kt_list_tuple | exact kt_list_dict))
  | ((with_reducible refine' z_rI ?k0 ?_); (case k0 => first | exact (by decide : (0 : Int) < _) | exact ⟨by decide, by decide⟩ | exact ⟨by decide, by decide, by decide⟩ | (show (0 : Int) < _; omega)))
  | ((with_reducible refine' z_mulI ?k0 ?_); (case k0 => first | exact Or.inr ⟨by decide, by decide⟩ | exact Or.inl ⟨by decide, by decide⟩ | exact Or.inl ⟨by omega, by omega⟩ | exact Or.inr ⟨by omega, by omega⟩))))
local macro_rules | `(tactic| leaf_len) => `(tactic| (simp only [wipe, List.map_cons, List.map_nil, List.set_cons_zero, List.set_cons_succ]; one_sign; refine z_ok rfl ?_; one_sign))
section
variable {P : Program} {w : World} {K : PySem.W.Frag} {mg : Str → Option Value} {base : Heap}
def sp_words : Addr → Sp := fun C vs H Q _ => ∃ st dx wl pl room entries least O kvs a, ∃ F : List Int, vs = [.ref st, .ref a] ∧ StoreAt H C st dx wl pl room entries least (flat O) kvs ∧ Good O kvs least ∧ H a = some (.dK (dF F)) ∧ a ∉ [st, wl, pl] ∧ (O.map (·.num)).Nodup ∧ (∀ n ∈ F, Live O n) ∧ F.length ≤ 1300 ∧
  ∀ H', Fr [] H H' → Q (.int (F.map (szf O)).sum) H'
theorem dF_at {F : List Int} {i : Nat} {k : Key} {v : V} (h : (dF F)[i]? = some (k, v)) : ∃ n, F[i]? = some n ∧ k = .inl n := by
  unfold dF at h
  rw [List.getElem?_map] at h
  obtain ⟨n, hn, e⟩ := Option.map_eq_some_iff.mp h
  cases e
  exact ⟨n, hn, rfl⟩
theorem dF_len (F : List Int) : (dF F).length = F.length := by unfold dF; rw [List.length_map]
theorem ok_words_of (W : WT P K mg base) : FnOk P w K mg base CX0 2 W.f_words_of W.fd_words_of ["store", "numbers"] (sp_words W.c_Store) := by
  refine W.F_words_of.ok sc_words_of (fun vs H Q E h => by obtain ⟨st, dx, wl, pl, room, entries, least, O, kvs, a, F, rfl, T, G, ha, na, hnd, hF, hl, k⟩ := h; rfl) (fun cdv A outer s H vs Q E hr h => ?_)
  obtain ⟨st, dx, wl, pl, room, entries, least, O, kvs, a, F, rfl, T, G, ha, na, hnd, hF, hl, k⟩ := h
  have hu1 := hu_of hr
  have hu64 := hu64_of hr
  refine ⟨_, (pss_one (ps_ret (pe_callB (cr_sum rfl) (by rfl) W.n_sum bb_sum (pa_cons (pe_lock (pe_lc (own := [("number", 2)]) (g := gName 2) (tt := tYes) rfl sc_words_of.nd (pi_keys (pv 1)) (blkOk_by (N := N_words_of) (sc := defScope s_words_of) (by first | decide +kernel | rfl)) (fun _ _ _ _ _ => (pg_name (i := 2) sc_words_of.nd rfl (by first | exact Or.inl rfl | exact Or.inr rfl))) (fun _ _ _ _ _ => pts_nil) (fun _ _ _ _ _ => (pe_op (op_addUK (K := K) rfl) pe_int (pe_meth (pv 0) W.C_Store W.m_Store_size (ok_Store_size W) (hr.mono (by decide)) W.b_Store_size .nil pass0 (pa_cons (pv 2) pa_nil)))))) pa_nil)))), ?_⟩
  refine z_start (σ := [some _, some _, none]) rfl ?_
  one_sign
  refine z_lcK (td := tVar 1) (fun H' R h => ⟨_, rfl, h⟩) ha (fun i xs H' => xs = ((F.take i).map (szf O)).map V.int) (fun od HF R1 H' _ _ _ _ => rfl) (fun od HF L i kk v xs H2 fF hF2 hL hk hi hl2 hxs hL2 f2 => ?_) (fun L xs H2 H3 hL hxs hl2 hL3 f3 f03 => ?_)
  · obtain ⟨n, hn, rfl⟩ := dF_at hk
    have hxs : xs = ((F.take i).map (szf O)).map V.int := hxs
    subst hxs
    obtain ⟨j, o, ho, hlo, rfl⟩ := hF n (List.mem_of_getElem? hn)
    have T2 := (T.keep fF (fun b hb h => na (by have : b = a := by simpa using h
                                                rw [← this]; exact hb))).keep f2 (by simp)
    have hst := T2.st
    show gName 2 (V.int o.num) _ _ _
    leaf_len
    refine ⟨st, dx, wl, pl, _, _, least, _, kvs, o.num, off O j, _, rfl, T2, G.at ho hlo, flat_size ho, ?_⟩
    one_sign
    refine z_lcY hL hL2 f2 hl2 (by rw [sizeLine_eq]; rw [dF_len] at hi; omega) fun H5 _ _ _ => ?_
    show _ = _
    rw [List.take_succ, hn, List.map_append, List.map_append]
    show _ = _ ++ [V.int (szf O o.num)]
    rw [szf_of hnd (List.mem_of_getElem? ho) hlo]
  have hxs : xs = ((F.take (dF F).length).map (szf O)).map V.int := hxs
  rw [dF_len, List.take_length] at hxs
  subst hxs
  one_sign
  refine ⟨_, _, rfl, SqL.of hL3, ?_⟩
  exact k _ f03
def sp_live (C CS PT : Addr) : Sp := fun vs H Q _ => ∃ sp X O rs hs, vs = [.ref sp] ∧ Spc C CS PT H sp X O rs hs ∧
  ∀ (F : List Int) H', F.Nodup → (∀ n, n ∈ F ↔ Reach O (0 :: (rs ++ hs)) n) → Fr [] H H' → Q (.int (F.map (szf O)).sum) H'
theorem ok_Space_live_words (W : WT P K mg base) : FnOk P w K mg base CX0 4 W.f_Space_live_words W.fd_Space_live_words ["self"] (sp_live W.c_Store W.c_Space W.PT_Store_close_up) := by
  refine W.F_Space_live_words.ok sc_Space_live_words (fun vs H Q E h => by obtain ⟨sp, X, O, rs, hs, rfl, S0, k⟩ := h; rfl) (fun cdv A outer s H vs Q E hr h => ?_)
  obtain ⟨sp, X, O, rs, hs, rfl, S0, k⟩ := h
  have hu1 := hu_of hr
  have hu64 := hu64_of hr
  refine ⟨_, (pss_one (ps_ret (pe_call (ok_words_of W) (hr.mono (by decide)) rfl W.g_words_of W.F_words_of.kp W.b_words_of .nil pass0 (pa_cons (pe_fld (pv 0) rfl) (pa_cons (pe_call (ok_reached W) (hr.mono (by decide)) rfl W.g_reached W.F_reached.kp W.b_reached .nil pass0 (pa_cons (pe_fld (pv 0) rfl) (pa_cons (pe_meth0 (pv 0) W.C_Space W.m_Space_all_roots (ok_Space_all_roots W) (hr.mono (by decide)) W.b_Space_all_roots .nil pass0 ) pa_nil))) pa_nil))))), ?_⟩
  refine z_start (σ := [some _]) rfl ?_
  one_sign
  obtain ⟨dxs, st, dx, wl, pl, pr, rt, hd, al, co, least, kvs, rfl, ss⟩ := S0
  have hsp := ss.S.sp
  one_sign
  refine ⟨sp, dxs, st, pr, rt, hd, al, co, rs, hs, rfl, ss.S, by have := ss.rl; omega, by have := ss.hl; omega, fun ra H1 hra hra0 f1 => ?_⟩
  have ss1 := ss.keep f1
  have hlen : (0 :: (rs ++ hs)).length ≤ 65 := by rw [List.length_cons, List.length_append]; have := ss.rl; have := ss.hl; omega
  one_sign
  refine ⟨st, dx, wl, pl, _, _, least, O, kvs, ra, _, rfl, ss1.T, ss.G, fun o ho => Nat.le_trans (ss.sz o ho) (by decide), ss.len, hra, hlen, fun D F H2 hD D2 ndF hF f2 => ?_⟩
  have ss2 := ss1.keep f2
  one_sign
  have hFO : F.length ≤ O.length := live_len ndF fun n hn => ((hF n).mp hn).live
  refine ⟨st, dx, wl, pl, _, _, least, O, kvs, D, F, rfl, ss2.T, ss.G, D2, fun hm => ?_, ss.nd, fun n hn => ((hF n).mp hn).live, by have := ss.len; omega, fun H3 f3 => ?_⟩
  · simp only [List.mem_cons, List.not_mem_nil, or_false] at hm
    rcases hm with e | e | e
    · rw [e, ss1.T.st] at hD; cases hD
    · rw [e, ss1.T.wl] at hD; cases hD
    · rw [e, ss1.T.pl] at hD; cases hD
  · one_sign
    exact k F H3 ndF hF ((f1.trans f2).trans f3)
end
def mkO (n : Int) : Ob := { num := n, kind := 0, sl := [], live := true }
/-- lists by the numbers in F -/
def dL (A : List Addr) (F : List Int) : List (Key × V) := dR A (F.map mkO)
theorem mkO_num (F : List Int) : (F.map mkO).map (·.num) = F := by rw [List.map_map]; exact List.map_id' _
theorem dL_len {A : List Addr} {F : List Int} (h : A.length = F.length) : (dL A F).length = F.length := by unfold dL; rw [dR_len (by rw [List.length_map]; exact h), List.length_map]
theorem dL_at {A : List Addr} {F : List Int} {i : Nat} {k : Key} {v : V} (h : (dL A F)[i]? = some (k, v)) : ∃ n a, F[i]? = some n ∧ A[i]? = some a ∧ k = .inl n ∧ v = .ref a := by
  obtain ⟨o, a, ho, ha, rfl, rfl⟩ := dR_at h
  rw [List.getElem?_map] at ho
  obtain ⟨n, hn, rfl⟩ := Option.map_eq_some_iff.mp ho
  exact ⟨n, a, hn, ha, rfl, rfl⟩
theorem dL_val {A : List Addr} {F : List Int} {i : Nat} {n : Int} {a : Addr} (hl : A.length = F.length) (nd : F.Nodup) (hn : F[i]? = some n) (ha : A[i]? = some a) : valV (dL A F) (.inl n) = some (.ref a) :=
  dR_val (o := mkO n) (by rw [List.length_map]; exact hl) (by rw [mkO_num]; exact nd) (by rw [List.getElem?_map, hn]; rfl) ha
theorem dL_some {A : List Addr} {F : List Int} (hl : A.length = F.length) (n : Int) : (valV (dL A F) (.inl n)).isSome = decide (n ∈ F) := by
  have h := dR_some (A := A) (O := F.map mkO) (by rw [List.length_map]; exact hl) n
  rw [mkO_num] at h
  by_cases hn : n ∈ F
  · rw [decide_eq_true hn]; exact h.mpr hn
  · rw [decide_eq_false hn]
    cases e : (valV (dL A F) (.inl n)).isSome with
    | false => rfl
    | true => exact absurd (h.mp e) hn
theorem dL_put {A : List Addr} {F : List Int} {n : Int} {a : Addr} (hl : A.length = F.length) (h : n ∉ F) : putK (dL A F) (.inl n) (.ref a) = dL (A ++ [a]) (F ++ [n]) := by
  rw [putK_new]
  · unfold dL dR
    rw [List.map_append, List.zip_append (by rw [List.length_map]; exact hl.symm), List.map_append]
    rfl
  · have := dL_some hl n
    rw [decide_eq_false h] at this
    exact Option.isNone_iff_eq_none.mp (by cases e : valV (dL A F) (.inl n) with
      | none => rfl
      | some v => rw [e] at this; cases this)
theorem dL_keys {A : List Addr} {F : List Int} (hl : A.length = F.length) : (dL A F).map (·.1) = F.map Sum.inl := by
  have := dR_keys (A := A) (O := F.map mkO) (by rw [List.length_map]; exact hl)
  rw [mkO_num] at this
  exact this
/-- the lists' contents -/
structure LsA (H : Hp) (A : List Addr) (F : List Int) (g : Int → List Int) : Prop where
  len : A.length = F.length
  it : ∀ (i : Nat) (a : Addr) (n : Int), A[i]? = some a → F[i]? = some n → H a = some (.lst ((g n).map V.int))
  nd : A.Nodup
theorem LsA.keepF {H H' : Hp} {A : List Addr} {F : List Int} {g : Int → List Int} {X : List Addr} (L : LsA H A F g) (f : Fr X H H') (h : ∀ a ∈ A, a ∉ X) : LsA H' A F g := ⟨L.len, fun i a n h1 h2 => f.g (L.it i a n h1 h2) (h a (List.mem_of_getElem? h1)), L.nd⟩
theorem LsA.keep {H H' : Hp} {A : List Addr} {F : List Int} {g : Int → List Int} (L : LsA H A F g) (f : Fr [] H H') : LsA H' A F g := L.keepF f (by simp)
theorem LsA.congr {H : Hp} {A : List Addr} {F : List Int} {g g' : Int → List Int} (L : LsA H A F g) (h : ∀ n ∈ F, g n = g' n) : LsA H A F g' := ⟨L.len, fun i a n h1 h2 => by rw [← h n (List.mem_of_getElem? h2)]; exact L.it i a n h1 h2, L.nd⟩
theorem LsA.set {H H' : Hp} {A : List Addr} {F : List Int} {g : Int → List Int} {j : Nat} {a : Addr} {x : Int} {l : List Int} (L : LsA H A F g) (ndF : F.Nodup) (ha : A[j]? = some a) (hx : F[j]? = some x) (f : Fr [a] H H') (h : H' a = some (.lst (l.map V.int))) : LsA H' A F (fun y => if y = x then l else g y) := by
  refine ⟨L.len, fun i b n hb hn => ?_, L.nd⟩
  by_cases e : i = j
  · subst e
    rw [ha] at hb; cases hb
    rw [hx] at hn; cases hn
    rw [if_pos rfl]
    exact h
  · rw [if_neg fun z => e ?_]
    · refine f.g (L.it i b n hb hn) (nin fun z => e ?_)
      subst z
      exact (List.getElem?_inj (List.getElem?_eq_some_iff.mp hb).1 L.nd).mp (hb.trans ha.symm)
    · subst z
      exact (List.getElem?_inj (List.getElem?_eq_some_iff.mp hn).1 ndF).mp (hn.trans hx.symm)
open Classical in
noncomputable def Gx (O : List Ob) (r0 F : List Int) (x : Int) : List Int := F.filter fun d => decide (Dm O r0 d x)
theorem mem_Gx {O : List Ob} {r0 F : List Int} {x d : Int} : d ∈ Gx O r0 F x ↔ d ∈ F ∧ Dm O r0 d x := by unfold Gx; rw [List.mem_filter]; simp
open Classical in
/-- .. amid the turn of n: up to place j -/
noncomputable def Gj (O : List Ob) (r0 F F2 : List Int) (n : Int) (x : Int) : List Int := Gx O r0 F x ++ if x ∈ F2 ∧ Dm O r0 n x then [n] else []
section
variable {P : Program} {w : World} {K : PySem.W.Frag} {mg : Str → Option Value} {base : Heap}
def sp_labove : Sp := fun vs H Q _ => ∃ d wd AO O ws, vs = [.ref d, .ref wd] ∧ Rws H d wd AO O ws ∧ (∀ o ∈ O, o.sl.length ≤ 99) ∧ (∀ o ∈ O, 0 ≤ o.num) ∧ O.length ≤ 80 ∧ ws.length ≤ 41 ∧
  ∀ D A F H', H D = none → H' D = some (.dK (dL A F)) → LsA H' A F (Gx O (0 :: ws) F) → F.Nodup → (∀ n, n ∈ F ↔ Reach O (0 :: ws) n) → (∀ a ∈ A, H a = none) → Fr [] H H' → Q (.ref D) H'
theorem ok__law_above (W : WT P K mg base) : FnOk P w K mg base CX0 2 W.f__law_above W.fd__law_above ["_law_rows_here", "_law_words"] sp_labove := by
  refine W.F__law_above.ok sc__law_above (fun vs H Q E h => by obtain ⟨d, wd, AO, O, ws, rfl, R, sz, nn, hO, hws, k⟩ := h; rfl) (fun cdv A outer s H vs Q E hr h => ?_)
  obtain ⟨d, wd, AO, O, ws, rfl, R, sz, nn, hO, hws, k⟩ := h
  have hu1 := hu_of hr
  have hu64 := hu64_of hr
  refine ⟨_, (pss_cons (ps_set (i := 2) sc__law_above.nd rfl (by first | exact Or.inl rfl | exact Or.inr rfl) pe_dnewK)
      (pss_cons (ps_set (i := 3) sc__law_above.nd rfl (by first | exact Or.inl rfl | exact Or.inr rfl) (pe_call (ok__law_reached W) (hr.mono (by decide)) rfl W.g__law_reached W.F__law_reached.kp W.b__law_reached .nil pass0 (pa_cons (pv 0) (pa_cons (pv 1) (pa_cons (pe_un un_neg pe_int) pa_nil)))))
      (pss_cons (ps_lock (ps_for PassesOwn.never rfl (pi_keys (pv 3)) (pg_name (i := 4) sc__law_above.nd rfl (by first | exact Or.inl rfl | exact Or.inr rfl)) (pss_one (ps_dput hu1 (pv 2) (pv 4) (pe_lst pa_nil) rfl))))
      (pss_cons (ps_lock (ps_for PassesOwn.never rfl (pi_keys (pv 3)) (pg_name (i := 4) sc__law_above.nd rfl (by first | exact Or.inl rfl | exact Or.inr rfl)) (pss_cons (ps_set (i := 5) sc__law_above.nd rfl (by first | exact Or.inl rfl | exact Or.inr rfl) (pe_call (ok__law_reached W) (hr.mono (by decide)) rfl W.g__law_reached W.F__law_reached.kp W.b__law_reached .nil pass0 (pa_cons (pv 0) (pa_cons (pv 1) (pa_cons (pv 4) pa_nil)))))
      (pss_one (ps_for PassesOwn.never rfl (pi_keys (pv 3)) (pg_name (i := 6) sc__law_above.nd rfl (by first | exact Or.inl rfl | exact Or.inr rfl)) (pss_one (ps_if (pt_cmpR (op_ninU hu1) (pv 6) (pv 5) (by first | exact nomark _ | rfl)) (pss_one (ps_expr (pe_bm PySem.F.plainAttrs_list PySem.F.slot_list_append PySem.F.type_list_append mt_append (pe_ix (ix_U hu1) (pv 2) (pv 6) (fun _ _ => rfl)) (pa_cons (pv 4) pa_nil)))) pss_nil)))))))
      (pss_one (ps_ret (pv 2))))))), ?_⟩
  refine z_start (σ := [some _, some _, none, none, none, none, none]) rfl ?_
  one_sign
  intro D2 H1 hD2 f1 D21
  one_sign
  refine ⟨d, wd, AO, O, ws, -1, rfl, R.keep f1, sz, hO, hws, fun D F H2 hD D2' ndF hF f2 => ?_⟩
  rw [blank_id fun o ho e => by have := nn o ho; omega] at hF
  have hFO : F.length ≤ O.length := live_len ndF fun n hn => ((hF n).mp hn).live
  have D22 := f2.g0 D21
  have nDD : D ≠ D2 := ne_of_none D21 hD |>.symm
  have f12 := f1.trans f2
  have hD0 : H D = none := f1.none hD
  one_sign
  refine z_forK (td := tVar 3) [D2] (nin nDD) (fun H' R h => ⟨_, rfl, h⟩) D2' (fun i σ H' => ∃ (A : List Addr) (v4 : Option V), σ = [some (.ref d), some (.ref wd), some (.ref D2), some (.ref D), v4, none, none] ∧ H' D2 = some (.dK (dL A (F.take i))) ∧ A.length = i ∧ A.Nodup ∧ ∀ a ∈ A, H' a = some (.lst []) ∧ H a = none ∧ a ≠ D)
    (fun od HF L => ⟨[], _, rfl, L.f.g D22 (nin nDD.symm), rfl, List.nodup_nil, fun a h => (by cases h)⟩) (fun od HF i kk v σ H3 L hk hi hI f3 hd3 => ?_) (fun σ H3 H4 hI f4 d4 f24 => ?_)
  · obtain ⟨A, v4, rfl, D23, hAl, hnd, hA⟩ := hI
    obtain ⟨n, hn, rfl⟩ := dF_at hk
    rw [dF_len] at hi
    show gName 4 (V.int n) _ _ _
    one_sign
    refine z_newL (by show 0 ≤ sizeLine; decide) fun a H4 ha f4 a4 => ?_
    have ha0 : H a = none := f12.none (L.f.noneF (f3.noneF ha (nin fun z => by rw [z, D23] at ha; cases ha)) (nin fun z => by rw [z, hd3] at ha; cases ha))
    have D24 := f4.g0 D23
    have tl : A.length = (F.take i).length := by rw [List.length_take]; omega
    one_sign
    refine z_dputI D24 (by rw [dL_len tl, sizeLine_eq]; omega) fun H5 f5 D25 n5 => ?_
    rw [dL_put tl (nd_take ndF hn)] at D25
    have naD2 : a ≠ D2 := fun z => by rw [z, D23] at ha; cases ha
    one_sign
    have naD : a ≠ D := fun z => by rw [z, hd3] at ha; cases ha
    refine ⟨⟨A ++ [a], _, rfl, by rw [D25, List.take_succ, hn]; rfl, by rw [List.length_append, hAl]; rfl, List.nodup_append.mpr ⟨hnd, by simp, fun b hb c hc e => ?_⟩, fun b hb => ?_⟩, (f3.trans (f4.mono (by simp))).trans f5⟩
    · rw [show c = a by simpa using hc] at e
      subst e
      rw [(hA _ hb).1] at ha; cases ha
    · rcases List.mem_append.mp hb with h | h
      · exact ⟨f5.g (f4.g0 (hA b h).1) (nin (ne_of (hA b h).1 D23 (by intro z; cases z))), (hA b h).2⟩
      · rw [show b = a by simpa using h]
        exact ⟨f5.g a4 (nin naD2), ha0, naD⟩
  obtain ⟨A, v4, rfl, D23, hAl, hnd, hA⟩ := hI
  rw [dF_len] at hAl D23
  rw [List.take_length] at D23
  have D24 := f4.g D23 (nin nDD.symm)
  have hA4 : ∀ a ∈ A, H4 a = some (.lst []) := fun a ha => f4.g (hA a ha).1 (nin (hA a ha).2.2)
  have hA0 : ∀ a ∈ A, H a = none := fun a ha => (hA a ha).2.1
  have DA : D ∉ A := fun h => (hA D h).2.2 rfl
  have D2A : D2 ∉ A := fun h => by have := hA4 _ h; rw [D24] at this; cases this
  have L4 : LsA H4 A F (Gx O (0 :: ws) (F.take 0)) := ⟨hAl, fun i a n ha _ => hA4 a (List.mem_of_getElem? ha), hnd⟩
  have f04 : Fr [] H H4 := f12.in f24 hD2
  clear hA
  refine z_forK (td := tVar 3) A DA (fun H' R h => ⟨_, rfl, h⟩) d4 (fun i σ H' => ∃ (v4 v5 v6 : Option V), σ = [some (.ref d), some (.ref wd), some (.ref D2), some (.ref D), v4, v5, v6] ∧ LsA H' A F (Gx O (0 :: ws) (F.take i)))
    (fun od HF L => ⟨_, _, _, rfl, L4.keepF L.f fun a ha => nin fun z => DA (z ▸ ha)⟩) (fun od HF i kk v σ H5 L hk hi hI f5 hd5 => ?_) (fun σ H5 H6 hI f6 d6 f46 => ?_)
  · obtain ⟨v4, v5, v6, rfl, L5⟩ := hI
    obtain ⟨n, hn, rfl⟩ := dF_at hk
    rw [dF_len] at hi
    have D2F := L.f.g D24 (nin nDD.symm)
    have f05 : Fr [] H H5 := (f04.inF L.f (fun q hq => by rw [List.mem_singleton.mp hq]; exact hD0)).inF f5 hA0
    show gName 4 (V.int n) _ _ _
    one_sign
    refine ⟨d, wd, AO, O, ws, n, rfl, R.keep f05, sz, hO, hws, fun D3 F3 H6 hD3 D36 nd3 hF3 f6 => ?_⟩
    have hd6 := f6.g0 hd5
    have D26 := f6.g0 (f5.g D2F D2A)
    have L6 := L5.keep f6
    have D3A : D3 ∉ A := fun h => by
      obtain ⟨j, hj⟩ := List.getElem?_of_mem h
      have hj2 := (List.getElem?_eq_some_iff.mp hj).1
      obtain ⟨x, hx⟩ : ∃ x, F[j]? = some x := ⟨_, List.getElem?_eq_getElem (by omega)⟩
      have := L6.it j _ x hj hx
      rw [D36] at this; cases this
    have f06 := f05.trans f6
    one_sign
    refine z_forF (td := tVar 3) (fun R h => ⟨_, rfl, h⟩) hd6 (fun j σ H' => ∃ (v6 : Option V), σ = [some (.ref d), some (.ref wd), some (.ref D2), some (.ref D), some (.int n), some (.ref D3), v6] ∧ LsA H' A F (Gj O (0 :: ws) (F.take i) (F.take j) n) ∧ Fr A H6 H')
      ⟨_, rfl, L6.congr fun x _ => by unfold Gj; rw [if_neg (by simp), List.append_nil], Fr.rfl'⟩ (fun j σ' H' ⟨_, _, _, g⟩ => g.g hd6 DA) (fun j kk v σ H7 hk hj hI hd7 => ?_) (fun σ H7 hI => ?_)
    · obtain ⟨v6, rfl, L7, g7⟩ := hI
      obtain ⟨x, hx, rfl⟩ := dF_at hk
      rw [dF_len] at hj
      have D37 := g7.g D36 D3A
      have D27 := g7.g D26 D2A
      have e6 : [some (V.ref d), some (.ref wd), some (.ref D2), some (.ref D), some (.int n), some (.ref D3), v6].set 6 (some (.int x)) = [some (V.ref d), some (.ref wd), some (.ref D2), some (.ref D), some (.int n), some (.ref D3), some (.int x)] := rfl
      show gName 6 (V.int x) _ _ _
      one_sign
      rw [dF_val]
      by_cases hm : x ∈ F3
      · rw [if_pos hm]
        one_sign
        refine ⟨_, rfl, L7.congr fun y _ => ?_, g7⟩
        unfold Gj
        congr 1
        by_cases e : y ∈ F.take j ∧ Dm O (0 :: ws) n y
        · rw [if_pos e, if_pos ⟨take_le e.1 (Nat.le_succ j), e.2⟩]
        · rw [if_neg e, if_neg]
          rintro ⟨h1, h2⟩
          by_cases h3 : y ∈ F.take j
          · exact e ⟨h3, h2⟩
          · have := take_mem hx h1 h3
            subst this
            exact h2 ((hF3 y).mp hm)
      · rw [if_neg hm]
        one_sign
        have hdm : Dm O (0 :: ws) n x := fun r => hm ((hF3 x).mpr r)
        obtain ⟨a, ha⟩ : ∃ a, A[j]? = some a := ⟨_, List.getElem?_eq_getElem (by omega)⟩
        have haA := List.mem_of_getElem? ha
        have a7 := L7.it j a x ha hx
        refine z_ixD D27 (dL_val hAl ndF hx ha) ?_
        one_sign
        have hnj := nd_take ndF hx
        have e1 : Gj O (0 :: ws) (F.take i) (F.take j) n x = Gx O (0 :: ws) (F.take i) x := by unfold Gj; rw [if_neg (fun h => hnj h.1), List.append_nil]
        have hgl : (Gx O (0 :: ws) (F.take i) x).length ≤ F.length := by
          unfold Gx
          refine Nat.le_trans (List.length_filter_le _ _) ?_
          rw [List.length_take]
          omega
        refine z_append a7 (by rw [List.length_map, e1, sizeLine_eq]; omega) fun H8 f8 a8 n8 => ?_
        have a8 : H8 a = some (.lst ((Gj O (0 :: ws) (F.take i) (F.take j) n x ++ [n]).map V.int)) := by rw [a8, List.map_append]; rfl
        refine ⟨_, rfl, (L7.set ndF ha hx f8 a8).congr fun y _ => ?_, g7.trans (f8.mono fun b hb => by rw [List.mem_singleton.mp hb]; exact haA)⟩
        by_cases e : y = x
        · subst e
          rw [if_pos rfl, e1]
          unfold Gj
          rw [if_pos ⟨take_in hx, hdm⟩]
        · rw [if_neg e]
          unfold Gj
          congr 1
          by_cases e2 : y ∈ F.take j ∧ Dm O (0 :: ws) n y
          · rw [if_pos e2, if_pos ⟨take_le e2.1 (Nat.le_succ j), e2.2⟩]
          · rw [if_neg e2, if_neg]
            rintro ⟨h1, h2⟩
            by_cases h3 : y ∈ F.take j
            · exact e2 ⟨h3, h2⟩
            · exact e (take_mem hx h1 h3)
    · obtain ⟨v6, rfl, L7, g7⟩ := hI
      rw [dF_len, List.take_length] at L7
      refine ⟨⟨_, _, _, rfl, L7.congr fun y hy => ?_⟩, (f5.trans (f6.mono (by simp))).trans g7⟩
      unfold Gj Gx
      rw [List.take_succ, hn, List.filter_append]
      congr 1
      show _ = [n].filter _
      by_cases e : Dm O (0 :: ws) n y
      · rw [if_pos ⟨hy, e⟩, List.filter_cons_of_pos (by simpa using e)]; rfl
      · rw [if_neg (fun h => e h.2), List.filter_cons_of_neg (by simpa using e)]; rfl
  · obtain ⟨v4, v5, v6, rfl, L5⟩ := hI
    rw [dF_len, List.take_length] at L5
    have g46 : ∀ b o, H4 b = some o → b ∉ A → H6 b = some o := fun b o e n => f46 b o e n
    one_sign
    exact k D2 A F H6 hD2 (f46.g D24 D2A) (L5.keepF f6 fun a ha => nin fun z => DA (z ▸ ha)) ndF hF hA0 (f04.inF f46 hA0)
end

end LX
namespace LX
open PySem PySem.Spec PyProof.Rows L2 NdefX
theorem SS.numsP {C CS PT : Addr} {H : Hp} {sp dxs st dx wl pl pr rt hd : Addr} {al co least : Int} {O : List Ob} {kvs : List (Key × V)} {rs hs : List Int} (s : SS C CS PT H sp dxs st dx wl pl pr rt hd al co least O kvs rs hs) : ∃ ms : List Int, kvs.map (·.1) = ms.map Sum.inl ∧ ms.Perm (O.map (·.num)) := by
  obtain ⟨ms, m1, m2⟩ := s.G.ints
  have : O.filter (·.live) = O := List.filter_eq_self.mpr s.lv
  rw [this] at m2
  exact ⟨ms, m1, m2⟩
section
variable {P : Program} {w : World} {K : PySem.W.Frag} {mg : Str → Option Value} {base : Heap}
end

end LX
namespace LX
open PySem PySem.Spec PyProof.Rows L2 NdefX
set_option hygiene false in
local macro_rules | `(tactic| k_memK) => `(tactic| first | exact W.na_Store_room | exact W.na_Store_entries | exact W.na_Store_words | exact W.na_Store__places | exact W.na_Store__least | exact W.na_Space_store | exact W.na_Space_pressure | exact W.na_Space_always | exact W.na_Space_allocations | exact W.na_Space_collections | exact W.na_Space__roots | exact W.na_Space__held | exact W.na_Space__saved)
set_option hygiene false in
local macro_rules | `(tactic| k_ownIn) => `(tactic| first | exact W.C_Store | exact W.C_Space)
local macro_rules | `(tactic| none_booked) => `(tactic| first | assumption | (refine Fr.g0 (by assumption) ?_; none_booked))
local macro_rules | `(tactic| one_sign) => `(tactic| repeat (first
  | refine Stp.h ?_
  | ((with_reducible refine' z_fld1 ?k0 ?k1 ?k2 ?k3 ?_); (case k0 => none_booked); (case k1 => k_ownIn); (case k2 => k_memK); (case k3 => rfl))
  | ((with_reducible refine' z_meth1 ?k0 ?k1 ?_); (case k0 => none_booked); (case k1 => rfl))
  | ((with_reducible refine' z_bmL ?k0 ?_); (case k0 => none_booked))
  | ((with_reducible refine' z_lenL ?k0 ?_); (case k0 => none_booked))
  | ((with_reducible refine' z_lenT ?k0 ?_); (case k0 => none_booked))
  | ((with_reducible refine' z_lenD ?k0 ?_); (case k0 => none_booked))
  | ((with_reducible refine' z_truL ?k0 ?_); (case k0 => none_booked))
  | ((with_reducible refine' z_truD ?k0 ?_); (case k0 => none_booked))
  | ((with_reducible refine' z_truT ?k0 ?_); (case k0 => none_booked))
  | ((with_reducible refine' z_inDIP ?k0 ?_); (case k0 => none_booked))
  | ((with_reducible refine' z_inDIN ?k0 ?_); (case k0 => none_booked))
  | ((with_reducible refine' z_inDfP ?k0 ?_); (case k0 => none_booked))
  | ((with_reducible refine' z_inDfN ?k0 ?_); (case k0 => none_booked))
  | ((with_reducible refine' z_iList1 ?k0 ?_); (case k0 => none_booked))
  | ((with_reducible refine' z_isi0 ?k0 ?k1 ?k2 ?_); (case k0 => exact (ClsV.ty _)); (case k1 => exact (TyX.base (TyOf.lst (by none_booked)))); (case k2 => first | exact kt_list_int | exact kt_list_bool | exact kt_list_str | exact kt_list_list | exact kt_list_tuple | exact kt_list_dict))
  | ((with_reducible refine' z_rI ?k0 ?_); (case k0 => first | exact (by decide : (0 : Int) < _) | exact ⟨by decide, by decide⟩ | exact ⟨by decide, by decide, by decide⟩ | (show (0 : Int) < _; omega)))
  | ((with_reducible refine' z_mulI ?k0 ?_); (case k0 => first | exact Or.inr ⟨by decide, by decide⟩ | exact Or.inl ⟨by decide, by decide⟩ | exact Or.inl ⟨by omega, by omega⟩ | exact Or.inr ⟨by omega, by omega⟩))))
local macro_rules | `(tactic| leaf_len) => `(tactic| (simp only [wipe, List.map_cons, List.map_nil, List.set_cons_zero, List.set_cons_succ]; one_sign; refine z_ok rfl ?_; one_sign))
/-- the best so far -/
def OwI (g : Int → List Int) (l : List Int) : Option Int → Prop
  | none => l = []
  | some y => y ∈ l ∧ ∀ z ∈ l, (g z).length ≤ (g y).length
theorem OwI.done {O : List Ob} {r0 F : List Int} {ow : Int → Option Int} (df : Dfor F (Dm O r0) ow) (nd : F.Nodup) {n : Int} (hn : n ∈ F) {o : Option Int} (h : OwI (Gx O r0 F) (Gx O r0 F n) o) : o = ow n := by
  cases e : ow n with
  | none =>
    cases o with
    | none => rfl
    | some y =>
      obtain ⟨h1, h2⟩ := mem_Gx.mp h.1
      exact absurd h2 (df.ownN n hn e y h1)
  | some y0 =>
    obtain ⟨m0, d0, al⟩ := df.ownS n hn y0 e
    have g0 : y0 ∈ Gx O r0 F n := mem_Gx.mpr ⟨m0, d0⟩
    cases o with
    | none => exact absurd g0 (by rw [show Gx O r0 F n = [] from h]; simp)
    | some y =>
      obtain ⟨hy, hm⟩ := h
      obtain ⟨h1, h2⟩ := mem_Gx.mp hy
      rcases al y h1 h2 with q | q
      · rw [q]
      · exfalso
        have h3 := hm y0 g0
        have nd2 : (Gx O r0 F y).Nodup := by unfold Gx; exact nd.sublist List.filter_sublist
        have := nd_len (y :: Gx O r0 F y) (Gx O r0 F y0) (List.nodup_cons.mpr ⟨fun z => df.irr y h1 (mem_Gx.mp z).2, nd2⟩) fun z hz => by
          rcases List.mem_cons.mp hz with e | e
          · rw [e]; exact mem_Gx.mpr ⟨h1, q⟩
          · obtain ⟨z1, z2⟩ := mem_Gx.mp e
            exact mem_Gx.mpr ⟨z1, df.tr z z1 y h1 y0 m0 z2 q⟩
        rw [List.length_cons] at this
        omega
theorem Gx_len {O : List Ob} {r0 F : List Int} {n : Int} : (Gx O r0 F n).length ≤ F.length := by unfold Gx; exact List.length_filter_le _ _
section
variable {P : Program} {w : World} {K : PySem.W.Frag} {mg : Str → Option Value} {base : Heap}
def sp_lowner : Sp := fun vs H Q _ => ∃ d od A F O r0 n ow, vs = [.ref d, .int n] ∧ H d = some (.frz od (.dK (dL A F))) ∧ LsA H A F (Gx O r0 F) ∧ F.Nodup ∧ n ∈ F ∧ Dfor F (Dm O r0) ow ∧ Q (ovV (ow n)) H
theorem ok__law_owner (W : WT P K mg base) : FnOk P w K mg base CX0 1 W.f__law_owner W.fd__law_owner ["_law_above_here", "_law_number_here"] sp_lowner := by
  refine W.F__law_owner.ok sc__law_owner (fun vs H Q E h => by obtain ⟨d, od, A, F, O, r0, n, ow, rfl, hd, L, nd, hn, df, k⟩ := h; rfl) (fun cdv A outer s H vs Q E hr h => ?_)
  obtain ⟨d, od, A, F, O, r0, n, ow, rfl, hd, L, nd, hn, df, k⟩ := h
  have hu1 := hu_of hr
  have hu64 := hu64_of hr
  refine ⟨_, (pss_cons (ps_set (i := 2) sc__law_owner.nd rfl (by first | exact Or.inl rfl | exact Or.inr rfl) pe_non)
      (pss_cons (ps_for PassesOwn.never rfl (pi_list (pe_ix (ix_U hu1) (pv 0) (pv 1) (fun _ _ => rfl))) (pg_name (i := 3) sc__law_owner.nd rfl (by first | exact Or.inl rfl | exact Or.inr rfl)) (pss_one (ps_if (PW.pt (pw_or (pt_cmpR op_isU (pv 2) pe_non (by first | exact nomark _ | rfl)) (pw_or1 (pt_cmpR op_gtU (pe_callB call_lenU (by rfl) W.n_len bb_len (pa_cons (pe_ix (ix_U hu1) (pv 0) (pv 3) (fun _ _ => rfl)) pa_nil)) (pe_callB call_lenU (by rfl) W.n_len bb_len (pa_cons (pe_ix (ix_U hu1) (pv 0) (pv 2) (fun _ _ => rfl)) pa_nil)) (by first | exact nomark _ | rfl))))) (pss_one (ps_set (i := 2) sc__law_owner.nd rfl (by first | exact Or.inl rfl | exact Or.inr rfl) (pv 3))) pss_nil)))
      (pss_one (ps_ret (pv 2))))), ?_⟩
  refine z_start (σ := [some _, some _, none, none]) rfl ?_
  one_sign
  have at_ : ∀ x, x ∈ F → ∃ a, valV (dL A F) (.inl x) = some (.ref a) ∧ H a = some (.lst ((Gx O r0 F x).map V.int)) := fun x hx => by
    obtain ⟨i, hi⟩ := List.getElem?_of_mem hx
    have hi2 := (List.getElem?_eq_some_iff.mp hi).1
    obtain ⟨a, ha⟩ : ∃ a, A[i]? = some a := ⟨_, List.getElem?_eq_getElem (by rw [L.len]; exact hi2)⟩
    exact ⟨a, dL_val L.len nd hi ha, L.it i a x ha hi⟩
  obtain ⟨a, va, ha⟩ := at_ n hn
  refine z_ixDf hd va ?_
  one_sign
  refine for_list (K := K) (a := a) (xs := (Gx O r0 F n).map V.int) (fun j σ H' => ∃ (o : Option Int) (v3 : Option V), σ = [some (.ref d), some (.int n), some (ovV o), v3] ∧ OwI (Gx O r0 F) ((Gx O r0 F n).take j) o ∧ H' = H)
    ⟨none, _, rfl, rfl, rfl⟩ (fun j σ H' _ hI => ?_) (fun j x σ H1 hx hI => ?_) (fun σ H1 hI => ?_)
  · obtain ⟨_, _, _, _, rfl⟩ := hI
    exact SqL.of ha
  · obtain ⟨o, v3, rfl, hO, rfl⟩ := hI
    rw [List.getElem?_map] at hx
    obtain ⟨x, hxl, rfl⟩ := Option.map_eq_some_iff.mp hx
    have hxm := List.mem_of_getElem? hxl
    have ht : (Gx O r0 F n).take (j + 1) = (Gx O r0 F n).take j ++ [x] := by rw [List.take_succ, hxl]; rfl
    obtain ⟨b, vb, hb⟩ := at_ x (mem_Gx.mp hxm).1
    cases o with
    | none =>
      rw [show ovV none = V.non from rfl]
      one_sign
      refine ⟨some x, _, rfl, ?_, rfl⟩
      have hO : (Gx O r0 F n).take j = [] := hO
      rw [ht, hO]
      exact ⟨by simp, fun z hz => by rw [show z = x by simpa using hz]; exact Nat.le_refl _⟩
    | some y =>
      obtain ⟨h1, h2⟩ := hO
      obtain ⟨c, vc, hc⟩ := at_ y (mem_Gx.mp (List.mem_of_mem_take h1)).1
      rw [show ovV (some y) = V.int y from rfl]
      one_sign
      refine z_ixDf hd vb ?_
      one_sign
      refine z_ixDf hd vc ?_
      one_sign
      rw [List.length_map, List.length_map]
      refine iteD (fun h => ?_) (fun h => ?_)
      · have h : ((Gx O r0 F y).length : Int) < ((Gx O r0 F x).length : Int) := h
        one_sign
        refine ⟨some x, _, rfl, ?_, rfl⟩
        rw [ht]
        refine ⟨by simp, fun z hz => ?_⟩
        rcases List.mem_append.mp hz with e | e
        · have := h2 z e; omega
        · rw [show z = x by simpa using e]; exact Nat.le_refl _
      · have h : ¬ ((Gx O r0 F y).length : Int) < ((Gx O r0 F x).length : Int) := h
        one_sign
        refine ⟨some y, _, rfl, ?_, rfl⟩
        rw [ht]
        refine ⟨List.mem_append_left _ h1, fun z hz => ?_⟩
        rcases List.mem_append.mp hz with e | e
        · exact h2 z e
        · rw [show z = x by simpa using e]; omega
  · obtain ⟨o, v3, rfl, hO, rfl⟩ := hI
    rw [List.length_map, List.take_length] at hO
    one_sign
    rw [hO.done df nd hn]
    exact k
def sp_ltold (C CS PT : Addr) : Sp := fun vs H Q _ => ∃ sp X O rs hs, ∃ t : Int, vs = [.ref sp, .int t] ∧ Spc C CS PT H sp X O rs hs ∧
  ∀ q D1 D2 F1 F2 ow ow2 (wt : Int → Int) H', H D1 = none → H D2 = none → H' q = some (.tup [.ref D1, .ref D2]) → H' D1 = some (.dK (mK F1 fun n => ovV (ow n))) → H' D2 = some (.dK (mK F2 fun n => .int (wt n))) → Ordr O (0 :: (rs ++ hs)) F1 → Ordr O (0 :: (rs ++ hs)) F2 → Dfor F1 (Dm O (0 :: (rs ++ hs))) ow → Dfor F2 (Dm O (0 :: (rs ++ hs))) ow2 →
    (∀ x ∈ F2, wt x = Sm (szf O) F2 (Un (Dm O (0 :: (rs ++ hs))) x)) → Fr [] H H' → Q (.ref q) H'
theorem ok__law_told (W : WT P K mg base) : FnOk P w K mg base CX0 7 W.f__law_told W.fd__law_told ["_law_space_here", "_law_turn"] (sp_ltold W.c_Store W.c_Space W.PT_Store_close_up) := by
  refine W.F__law_told.ok sc__law_told (fun vs H Q E h => by obtain ⟨sp, X, O, rs, hs, t, rfl, S, k⟩ := h; rfl) (fun cdv A outer s H vs Q E hr h => ?_)
  obtain ⟨sp, X, O, rs, hs, t, rfl, S, k⟩ := h
  have hu1 := hu_of hr
  have hu64 := hu64_of hr
  refine ⟨_, (pss_cons (ps_if (pt_cmpR (op_eqU hu64) (pe_op op_mod (pe_callTy call_intU (by rfl) W.n_int bb_int (pa_cons (pv 1) pa_nil)) pe_int) pe_int (by first | exact nomark _ | rfl)) (pss_cons (ps_set (i := 2) sc__law_told.nd rfl (by first | exact Or.inl rfl | exact Or.inr rfl) (pe_call (ok_retained_words W) (hr.mono (by decide)) rfl W.g_retained_words W.F_retained_words.kp W.b_retained_words .nil pass0 (pa_cons (pv 0) pa_nil)))
      (pss_one (ps_ret (pe_tup (pa_cons (pe_call (ok_owners W) (hr.mono (by decide)) rfl W.g_owners W.F_owners.kp W.b_owners .nil pass0 (pa_cons (pv 0) pa_nil)) (pa_cons (pv 2) pa_nil)))))) pss_nil)
      (pss_one (ps_ret (pe_tup (pa_cons (pe_call (ok_owners W) (hr.mono (by decide)) rfl W.g_owners W.F_owners.kp W.b_owners .nil pass0 (pa_cons (pv 0) pa_nil)) (pa_cons (pe_call (ok_retained_words W) (hr.mono (by decide)) rfl W.g_retained_words W.F_retained_words.kp W.b_retained_words .nil pass0 (pa_cons (pv 0) pa_nil)) pa_nil)))))), ?_⟩
  refine z_start (σ := [some _, some _, none]) rfl ?_
  one_sign
  refine iteD (fun h => ?_) (fun h => ?_)
  · one_sign
    refine ⟨sp, X, O, rs, hs, rfl, S, fun D2 F2 wt ow2 H1 hD2 D21 hF2 df2 hwt f1 => ?_⟩
    one_sign
    refine ⟨sp, X, O, rs, hs, rfl, S.keep f1, fun D1 F1 ow H2 hD1 D12 hF1 df1 f2 => ?_⟩
    one_sign
    refine z_newL (by show 2 ≤ sizeLine; decide) fun q H3 hq f3 q3 => ?_
    exact k q D1 D2 F1 F2 ow ow2 wt H3 (f1.none hD1) hD2 q3 (f3.g0 D12) (f3.g0 (f2.g0 D21)) hF1 hF2 df1 df2 hwt ((f1.trans f2).trans f3)
  · one_sign
    refine ⟨sp, X, O, rs, hs, rfl, S, fun D1 F1 ow H1 hD1 D11 hF1 df1 f1 => ?_⟩
    one_sign
    refine ⟨sp, X, O, rs, hs, rfl, S.keep f1, fun D2 F2 wt ow2 H2 hD2 D22 hF2 df2 hwt f2 => ?_⟩
    one_sign
    refine z_newL (by show 2 ≤ sizeLine; decide) fun q H3 hq f3 q3 => ?_
    exact k q D1 D2 F1 F2 ow ow2 wt H3 hD1 (f1.none hD2) q3 (f3.g0 (f2.g0 D11)) (f3.g0 D22) hF1 hF2 df1 df2 hwt ((f1.trans f2).trans f3)
/-- what is told of the space -/
structure MkA (H : Hp) (q : Addr) (l1 l2 l3 : List Int) (al co : Int) : Prop where
  ex : ∃ a1 a2 a3 a4, H q = some (.lst [.ref a1, .ref a2, .ref a3, .ref a4, .int al, .int co, .bl false]) ∧ IsI H a1 l1 ∧ IsI H a2 l2 ∧ IsI H a3 l3 ∧ IsI H a4 []
theorem MkA.keep {H H' : Hp} {q : Addr} {l1 l2 l3 : List Int} {al co : Int} (m : MkA H q l1 l2 l3 al co) (f : Fr [] H H') : MkA H' q l1 l2 l3 al co := by
  obtain ⟨a1, a2, a3, a4, h0, h1, h2, h3, h4⟩ := m.ex
  exact ⟨a1, a2, a3, a4, f.g0 h0, f.g0 h1, f.g0 h2, f.g0 h3, f.g0 h4⟩
def intD (l : List Int) : PyData := .list (l.map PyData.int)
theorem dpall_ints {K : PySem.W.Frag} {H : Hp} : ∀ l : List Int, DpAll K H (l.map V.int) (l.map PyData.int)
  | [] => .nil
  | z :: o => .cons (.int z) (dpall_ints o)
theorem lay_ints : ∀ l : List Int, PyData.canLayAll0 (l.map PyData.int) = true
  | [] => rfl
  | z :: o => by
    show (PyData.canLay0 (.int z) && PyData.canLayAll0 (o.map PyData.int)) = true
    rw [lay_ints o]
    rfl
theorem dep_ints : ∀ l : List Int, PyData.depthAll (l.map PyData.int) = 0
  | [] => by simp [PyData.depthAll]
  | z :: o => by
    have := dep_ints o
    simp only [List.map_cons, PyData.depthAll, this]
    simp [PyData.depth]
def mkD (l1 l2 l3 : List Int) (al co : Int) : PyData := .list [intD l1, intD l2, intD l3, intD [], .int al, .int co, .bool false]
theorem mk_shaped (l1 l2 l3 : List Int) (al co : Int) : SeqAt.shaped (mkD l1 l2 l3 al co) = true := by
  unfold SeqAt.shaped mkD intD
  rw [Bool.and_eq_true, decide_eq_true_eq]
  refine ⟨?_, ?_⟩
  · simp [PyData.canLay0, PyData.canLayAll0, lay_ints]
  · simp [PyData.depth, PyData.depthAll, dep_ints]
theorem MkA.dp {H : Hp} {q : Addr} {l1 l2 l3 : List Int} {al co : Int} (m : MkA H q l1 l2 l3 al co) : Dp K H (.ref q) (mkD l1 l2 l3 al co) := by
  obtain ⟨a1, a2, a3, a4, h0, h1, h2, h3, h4⟩ := m.ex
  exact .lst (SqL.of h0) (.cons (.lst (SqL.of h1) (dpall_ints _)) (.cons (.lst (SqL.of h2) (dpall_ints _)) (.cons (.lst (SqL.of h3) (dpall_ints _)) (.cons (.lst (SqL.of h4) (dpall_ints [])) (.cons (.int _) (.cons (.int _) (.cons (.bl _) .nil)))))))
theorem mk_eqv (l1 l2 l3 : List Int) (al co : Int) : PyData.eqv (mkD l1 l2 l3 al co) (mkD l1 l2 l3 al co) = true :=
  PySem.SeqAt.eqv_refl_plain _ (PySem.PyData.plain_of_canLay0 _ (SeqAt.canLay_of_shaped (mk_shaped l1 l2 l3 al co)))
def sp_lmarks (C CS PT : Addr) : Sp := fun vs H Q _ => ∃ sp dxs st dx wl pl pr rt hd al co least O kvs rs hs, vs = [.ref sp] ∧ SS C CS PT H sp dxs st dx wl pl pr rt hd al co least O kvs rs hs ∧
  ∀ q ns H', MkA H' q (flat O) ns (0 :: (rs ++ hs)) al co → ns.Perm (O.map (·.num)) → ns.Pairwise (· ≤ ·) → Fr [] H H' → Q (.ref q) H'
theorem ok__law_marks (W : WT P K mg base) : FnOk P w K mg base CX0 2 W.f__law_marks W.fd__law_marks ["_law_space_here"] (sp_lmarks W.c_Store W.c_Space W.PT_Store_close_up) := by
  refine W.F__law_marks.ok sc__law_marks (fun vs H Q E h => by obtain ⟨sp, dxs, st, dx, wl, pl, pr, rt, hd, al, co, least, O, kvs, rs, hs, rfl, ss, k⟩ := h; rfl) (fun cdv A outer s H vs Q E hr h => ?_)
  obtain ⟨sp, dxs, st, dx, wl, pl, pr, rt, hd, al, co, least, O, kvs, rs, hs, rfl, ss, k⟩ := h
  have hu1 := hu_of hr
  have hu64 := hu64_of hr
  refine ⟨_, (pss_cons (ps_set (i := 1) sc__law_marks.nd rfl (by first | exact Or.inl rfl | exact Or.inr rfl) (pe_lst (pa_cons (pe_callTy call_listU (by rfl) W.n_list bb_list (pa_cons (pe_fld (pe_fld (pv 0) rfl) rfl) pa_nil)) (pa_cons (pe_meth0 (pe_fld (pv 0) rfl) W.C_Store W.m_Store_numbers (ok_Store_numbers W) (hr.mono (by decide)) W.b_Store_numbers .nil pass0 ) (pa_cons (pe_meth0 (pv 0) W.C_Space W.m_Space_all_roots (ok_Space_all_roots W) (hr.mono (by decide)) W.b_Space_all_roots .nil pass0 ) (pa_cons (pe_callTy call_listU (by rfl) W.n_list bb_list (pa_cons (pe_fld (pv 0) rfl) pa_nil)) pa_nil))))))
      (pss_one (ps_ret (pe_op op_addU (pv 1) (pe_lst (pa_cons (pe_fld (pv 0) rfl) (pa_cons (pe_fld (pv 0) rfl) (pa_cons (pe_fld (pv 0) rfl) pa_nil)))))))), ?_⟩
  refine z_start (σ := [some _, none]) rfl ?_
  one_sign
  have hsp := ss.S.sp
  have hst := ss.T.st
  one_sign
  refine z_listL ss.T.wl fun a1 H1 ha1 f1 a11 => ?_
  have ss1 := ss.keep f1
  have hsp1 := ss1.S.sp
  have hst1 := ss1.T.st
  one_sign
  obtain ⟨ms, m1, m2⟩ := ss.numsP
  refine ⟨st, dx, wl, pl, _, _, least, _, kvs, ms, rfl, ss1.T, m1, fun ns a2 pm ps ha2 => ?_⟩
  have f2 : Fr [] H1 (upd H1 a2 (.lst (ns.map V.int))) := Fr.new ha2
  have a22 : upd H1 a2 (.lst (ns.map V.int)) a2 = some (.lst (ns.map V.int)) := upd_same
  generalize upd H1 a2 (.lst (ns.map V.int)) = H2 at f2 a22
  have ss2 := ss1.keep f2
  have hsp2 := ss2.S.sp
  one_sign
  refine ⟨sp, dxs, st, pr, rt, hd, al, co, rs, hs, rfl, ss2.S, by have := ss.rl; omega, by have := ss.hl; omega, fun a3 H3 a33 ha3 f3 => ?_⟩
  have ss3 := ss2.keep f3
  have hsp3 := ss3.S.sp
  one_sign
  refine z_listL ss3.S.pr fun a4 H4 ha4 f4 a44 => ?_
  one_sign
  refine z_newL (by show 4 ≤ sizeLine; decide) fun q H5 hq f5 q5 => ?_
  have ss5 := (ss3.keep f4).keep f5
  have hsp5 := ss5.S.sp
  one_sign
  refine z_newL (by show 3 ≤ sizeLine; decide) fun q2 H6 hq2 f6 q26 => ?_
  one_sign
  refine z_addL (f6.g0 q5) q26 (by show 4 + 3 ≤ sizeLine; decide) fun q3 H7 hq3 f7 q37 => ?_
  have f47 := ((f4.trans f5).trans f6).trans f7
  exact k q3 ns H7 ⟨a1, a2, a3, a4, q37, f47.g0 (f3.g0 (f2.g0 a11)), f47.g0 (f3.g0 a22), f47.g0 a33, (f5.trans (f6.trans f7)).g0 a44⟩ (pm.trans m2) ps (((f1.trans f2).trans f3).trans f47)
end

end LX
namespace LX
open PySem PySem.Spec PyProof.Rows L2 NdefX
set_option hygiene false in
local macro_rules | `(tactic| k_memK) => `(tactic| first | exact W.na_Store_room | exact W.na_Store_entries | exact W.na_Store_words | exact W.na_Store__places | exact W.na_Store__least | exact W.na_Space_store | exact W.na_Space_pressure | exact W.na_Space_always | exact W.na_Space_allocations | exact W.na_Space_collections | exact W.na_Space__roots | exact W.na_Space__held | exact W.na_Space__saved)
set_option hygiene false in
local macro_rules | `(tactic| k_ownIn) => `(tactic| first | exact W.C_Store | exact W.C_Space)
local macro_rules | `(tactic| none_booked) => `(tactic| first | assumption | (refine Fr.g0 (by assumption) ?_; none_booked))
local macro_rules | `(tactic| one_sign) => `(tactic| repeat (first
  | refine Stp.h ?_
  | ((with_reducible refine' z_fld1 ?k0 ?k1 ?k2 ?k3 ?_); (case k0 => none_booked); (case k1 => k_ownIn); (case k2 => k_memK); (case k3 => rfl))
  | ((with_reducible refine' z_meth1 ?k0 ?k1 ?_); (case k0 => none_booked); (case k1 => rfl))
  | ((with_reducible refine' z_bmL ?k0 ?_); (case k0 => none_booked))
  | ((with_reducible refine' z_lenL ?k0 ?_); (case k0 => none_booked))
  | ((with_reducible refine' z_lenT ?k0 ?_); (case k0 => none_booked))
  | ((with_reducible refine' z_lenD ?k0 ?_); (case k0 => none_booked))
  | ((with_reducible refine' z_truL ?k0 ?_); (case k0 => none_booked))
  | ((with_reducible refine' z_truD ?k0 ?_); (case k0 => none_booked))
  | ((with_reducible refine' z_truT ?k0 ?_); (case k0 => none_booked))
  | ((with_reducible refine' z_inDIP ?k0 ?_); (case k0 => none_booked))
  | ((with_reducible refine' z_inDIN ?k0 ?_); (case k0 => none_booked))
  | ((with_reducible refine' z_inDfP ?k0 ?_); (case k0 => none_booked))
  | ((with_reducible refine' z_inDfN ?k0 ?_); (case k0 => none_booked))
  | ((with_reducible refine' z_iList1 ?k0 ?_); (case k0 => none_booked))
  | ((with_reducible refine' z_isi0 ?k0 ?k1 ?k2 ?_); (case k0 => exact (ClsV.ty _)); (case k1 => exact (TyX.base (TyOf.lst (by none_booked)))); (case k2 => first | exact kt_list_int | exact kt_list_bool | exact kt_list_str | exact kt_list_list | exact kt_list_tuple | exact kt_list_dict))
  | ((with_reducible refine' z_rI ?k0 ?_); (case k0 => first | exact (by decide : (0 : Int) < _) | exact ⟨by decide, by decide⟩ | exact ⟨by decide, by decide, by decide⟩ | (show (0 : Int) < _; omega)))
  | ((with_reducible refine' z_mulI ?k0 ?_); (case k0 => first | exact Or.inr ⟨by decide, by decide⟩ | exact Or.inl ⟨by decide, by decide⟩ | exact Or.inl ⟨by omega, by omega⟩ | exact Or.inr ⟨by omega, by omega⟩))))
local macro_rules | `(tactic| leaf_len) => `(tactic| (simp only [wipe, List.map_cons, List.map_nil, List.set_cons_zero, List.set_cons_succ]; one_sign; refine z_ok rfl ?_; one_sign))
theorem Live.pm {O O' : List Ob} (h : ∀ o, o ∈ O → o ∈ O') {n : Int} : Live O n → Live O' n := fun ⟨_, o, h1, h2, h3⟩ => by
  obtain ⟨j, hj⟩ := List.getElem?_of_mem (h o (List.mem_of_getElem? h1))
  exact ⟨j, o, hj, h2, h3⟩
theorem Reach.pm {O O' : List Ob} (h : ∀ o, o ∈ O → o ∈ O') {rs : List Int} {n : Int} (r : Reach O rs n) : Reach O' rs n := by
  induction r with
  | root h1 h2 h3 => exact .root h1 h2 (h3.pm h)
  | step h1 h2 h3 h4 h5 h6 h7 ih => exact ih.mstep (h _ (List.mem_of_getElem? h2)) h3 h4 h5 h6 (h7.pm h)
theorem blank_pm {O O' : List Ob} (h : ∀ o, o ∈ O → o ∈ O') {d : Int} : ∀ o, o ∈ blank d O → o ∈ blank d O' := fun o ho => by
  obtain ⟨p, hp, e⟩ := List.mem_map.mp ho
  exact List.mem_map.mpr ⟨p, h p hp, e⟩
theorem Dm_pm {O O' : List Ob} (h : ∀ o, o ∈ O ↔ o ∈ O') (r0 : List Int) : Dm O r0 = Dm O' r0 := funext fun d => funext fun x => propext (not_congr ⟨Reach.pm (blank_pm fun o => (h o).mp), Reach.pm (blank_pm fun o => (h o).mpr)⟩)
theorem inVI (n : Int) (l : List Int) : inV (.int n) (l.map V.int) = decide (n ∈ l) := by
  unfold inV
  rw [List.any_map]
  by_cases h : n ∈ l
  · rw [decide_eq_true h, List.any_eq_true]
    exact ⟨n, h, by simp [eqV]⟩
  · rw [decide_eq_false h, List.any_eq_false]
    intro x hx
    simp only [Function.comp, eqV, beq_iff_eq]
    intro e
    exact h (by rw [← e]; exact hx)
theorem intsF (l : List Int) : (l.map V.int).all flatV = true := by rw [List.all_map]; exact List.all_eq_true.mpr fun _ _ => rfl
theorem Sm.perm {sz : Int → Int} {F F' : List Int} (h : F.Perm F') (p : Int → Prop) : Sm sz F p = Sm sz F' p := by unfold Sm; exact sum_perm (h.map _)
open Classical in
noncomputable def Bl (D : Int → Int → Prop) (n : Int) (F : List Int) : List Int := F.filter fun y => decide (Un D n y)
theorem Bl_sum {D : Int → Int → Prop} {n : Int} {sz : Int → Int} (F : List Int) : ((Bl D n F).map sz).sum = Sm sz F (Un D n) := by
  induction F with
  | nil => rfl
  | cons a l ih =>
    rw [Sm.cons]
    unfold Bl at ih ⊢
    by_cases e : Un D n a
    · rw [List.filter_cons_of_pos (by simpa using e), List.map_cons, List.sum_cons, ih, if_pos e]
    · rw [List.filter_cons_of_neg (by simpa using e), ih, if_neg e]; omega
def Rt (D : Int → Int → Prop) (ow : Int → Option Int) (L : List Int) (y : Int) : Prop := ∃ x ∈ L, ow x = none ∧ Un D x y
section
variable {P : Program} {w : World} {K : PySem.W.Frag} {mg : Str → Option Value} {base : Heap}
def sp_agr (C CS PT : Addr) : Sp := fun vs H Q _ => ∃ sp d wd, ∃ t : Int, ∃ X AO O OL rs hs, vs = [.ref sp, .ref d, .ref wd, .int t] ∧ Spc C CS PT H sp X O rs hs ∧ Rws H d wd AO OL (rs ++ hs) ∧ O.Perm OL ∧ O.length ≤ 80 ∧ ∀ H', Fr [] H H' → Q (.bl true) H'
theorem ok__law_agrees (W : WT P K mg base) : FnOk P w K mg base CX0 8 W.f__law_agrees W.fd__law_agrees ["_law_space_here", "_law_rows_here", "_law_words", "_law_turn"] (sp_agr W.c_Store W.c_Space W.PT_Store_close_up) := by
  refine W.F__law_agrees.ok sc__law_agrees (fun vs H Q E h => by obtain ⟨sp, d, wd, t, X, AO, O, OL, rs, hs, rfl, S0, R, hP, hlen, k⟩ := h; rfl) (fun cdv A outer s H vs Q E hr h => ?_)
  obtain ⟨sp, d, wd, t, X, AO, O, OL, rs, hs, rfl, S0, R, hP, hlen, k⟩ := h
  have hu1 := hu_of hr
  have hu64 := hu64_of hr
  refine ⟨_, (pss_cons (ps_set (i := 4) sc__law_agrees.nd rfl (by first | exact Or.inl rfl | exact Or.inr rfl) (pe_call (ok__law_above W) (hr.mono (by decide)) rfl W.g__law_above W.F__law_above.kp W.b__law_above .nil pass0 (pa_cons (pv 1) (pa_cons (pv 2) pa_nil))))
      (pss_cons (ps_set (i := 5) sc__law_agrees.nd rfl (by first | exact Or.inl rfl | exact Or.inr rfl) (pe_call (ok__law_marks W) (hr.mono (by decide)) rfl W.g__law_marks W.F__law_marks.kp W.b__law_marks .nil pass0 (pa_cons (pv 0) pa_nil)))
      (pss_cons (ps_asg (pe_call (ok__law_told W) (hr.mono (by decide)) rfl W.g__law_told W.F__law_told.kp W.b__law_told .nil pass0 (pa_cons (pv 0) (pa_cons (pv 3) pa_nil))) (pg_tup rfl (pgs_cons (pg_name (i := 6) sc__law_agrees.nd rfl (by first | exact Or.inl rfl | exact Or.inr rfl)) (pgs_cons (pg_name (i := 7) sc__law_agrees.nd rfl (by first | exact Or.inl rfl | exact Or.inr rfl)) pgs_nil))))
      (pss_cons (ps_if (pt_cmpR (op_neU hu64) (pe_call (ok__law_marks W) (hr.mono (by decide)) rfl W.g__law_marks W.F__law_marks.kp W.b__law_marks .nil pass0 (pa_cons (pv 0) pa_nil)) (pv 5) (by first | exact nomark _ | rfl)) (pss_one (ps_ret pe_bl)) pss_nil)
      (pss_cons (ps_if (PW.pt (pw_or (pt_not (pt_truth (pe_callB call_isi (by rfl) W.n_isinstance bb_isinstance (pa_cons (pv 6) (pa_cons (pe_bt rfl W.n_dict bb_dict) pa_nil))) (by intro _; rfl))) (pw_or1 (pt_not (pt_truth (pe_call (ok__law_same W) (hr.mono (by decide)) rfl W.g__law_same W.F__law_same.kp W.b__law_same .nil pass0 (pa_cons (pe_callB (call_sortedU rfl) (by rfl) W.n_sorted bb_sorted (pa_cons (pv 6) pa_nil)) (pa_cons (pe_callB (call_sortedU rfl) (by rfl) W.n_sorted bb_sorted (pa_cons (pv 4) pa_nil)) pa_nil))) (by intro _; rfl)))))) (pss_one (ps_ret pe_bl)) pss_nil)
      (pss_cons (ps_if (PW.pt (pw_or (pt_not (pt_truth (pe_callB call_isi (by rfl) W.n_isinstance bb_isinstance (pa_cons (pv 7) (pa_cons (pe_bt rfl W.n_dict bb_dict) pa_nil))) (by intro _; rfl))) (pw_or1 (pt_not (pt_truth (pe_call (ok__law_same W) (hr.mono (by decide)) rfl W.g__law_same W.F__law_same.kp W.b__law_same .nil pass0 (pa_cons (pe_callB (call_sortedU rfl) (by rfl) W.n_sorted bb_sorted (pa_cons (pv 7) pa_nil)) (pa_cons (pe_callB (call_sortedU rfl) (by rfl) W.n_sorted bb_sorted (pa_cons (pv 4) pa_nil)) pa_nil))) (by intro _; rfl)))))) (pss_one (ps_ret pe_bl)) pss_nil)
      (pss_cons (ps_set (i := 8) sc__law_agrees.nd rfl (by first | exact Or.inl rfl | exact Or.inr rfl) pe_int)
      (pss_cons (ps_lock (ps_for PassesOwn.never rfl (pi_keys (pv 4)) (pg_name (i := 9) sc__law_agrees.nd rfl (by first | exact Or.inl rfl | exact Or.inr rfl)) (pss_cons (ps_set (i := 10) sc__law_agrees.nd rfl (by first | exact Or.inl rfl | exact Or.inr rfl) (pe_call (ok__law_owner W) (hr.mono (by decide)) rfl W.g__law_owner W.F__law_owner.kp W.b__law_owner .nil pass0 (pa_cons (pv 4) (pa_cons (pv 9) pa_nil))))
      (Evl.pss_cut (ps_if (PW.pt (pw_or (PW.pt (pw_and (pt_cmpR op_isU (pv 10) pe_non (by first | exact nomark _ | rfl)) (pw_and1 (pt_cmpR op_isnotU (pe_ix (ix_U hu1) (pv 6) (pv 9) (fun _ _ => rfl)) pe_non (by first | exact nomark _ | rfl))))) (pw_or1 (PW.pt (pw_and (pt_cmpR op_isnotU (pv 10) pe_non (by first | exact nomark _ | rfl)) (pw_and1 (pt_not (pt_truth (pe_call (ok__law_is W) (hr.mono (by decide)) rfl W.g__law_is W.F__law_is.kp W.b__law_is .nil pass0 (pa_cons (pe_ix (ix_U hu1) (pv 6) (pv 9) (fun _ _ => rfl)) (pa_cons (pv 10) pa_nil))) (by intro _; rfl))))))))) (pss_one (ps_ret pe_bl)) pss_nil)
      (pss_cons (ps_setLc (i := 11) (own := [("_law_other", 13)]) (g := gName 13)  rfl sc__law_agrees.nd rfl rfl (sw_true rfl rfl rfl (by decide +kernel)) (pi_keys (pv 4)) (blkOk_by (N := N__law_agrees) (sc := defScope s__law_agrees) (by first | decide +kernel | rfl)) (fun _ _ _ _ _ => (pg_name (i := 13) sc__law_agrees.nd rfl (by first | exact Or.inl rfl | exact Or.inr rfl))) (fun _ _ _ _ _ => pts_one (PW.pt (pw_or (pt_cmpR (op_eqUK (K := K) rfl (by exact hu64)) (pv 13) (pv 9) (by first | exact nomark _ | rfl)) (pw_or1 (pt_cmpR (op_inUK (K := K) rfl (by exact hu1)) (pv 9) (pe_ix (ix_UK (K := K) rfl (by exact hu1)) (pv 4) (pv 13) (fun _ _ => rfl)) (by first | exact nomark _ | rfl)))))) (fun _ _ _ _ _ => (pv 13)))
      (pss_cons (ps_set (i := 12) sc__law_agrees.nd rfl (by first | exact Or.inl rfl | exact Or.inr rfl) (pe_callB (cr_sum rfl) (by rfl) W.n_sum bb_sum (pa_cons (pe_lc (own := [("_law_other", 13)]) (g := gName 13) (tt := tYes) rfl sc__law_agrees.nd (pi_list (pv 11)) (blkOk_by (N := N__law_agrees) (sc := defScope s__law_agrees) (by first | decide +kernel | rfl)) (fun _ _ _ _ _ => (pg_name (i := 13) sc__law_agrees.nd rfl (by first | exact Or.inl rfl | exact Or.inr rfl))) (fun _ _ _ _ _ => pts_nil) (fun _ _ _ _ _ => (pe_op (op_addUK (K := K) rfl) pe_int (pe_callB (call_lenUK (K := K) rfl) (by rfl) W.n_len bb_len (pa_cons (pe_ix (ix_UK (K := K) rfl (by exact hu1)) (pv 1) (pv 13) (fun _ _ => rfl)) pa_nil))))) pa_nil)))
      (pss_cons (ps_if (pt_not (pt_truth (pe_call (ok__law_is W) (hr.mono (by decide)) rfl W.g__law_is W.F__law_is.kp W.b__law_is .nil pass0 (pa_cons (pe_ix (ix_U hu1) (pv 7) (pv 9) (fun _ _ => rfl)) (pa_cons (pv 12) pa_nil))) (by intro _; rfl))) (pss_one (ps_ret pe_bl)) pss_nil)
      (pss_one (ps_if (pt_cmpR op_isU (pv 10) pe_non (by first | exact nomark _ | rfl)) (pss_one (ps_set (i := 8) sc__law_agrees.nd rfl (by first | exact Or.inl rfl | exact Or.inr rfl) (pe_op op_addU (pv 8) (pv 12)))) pss_nil)))))))))
      (pss_one (ps_ret (pe_call (ok__law_is W) (hr.mono (by decide)) rfl W.g__law_is W.F__law_is.kp W.b__law_is .nil pass0 (pa_cons (pe_meth0 (pv 0) W.C_Space W.m_Space_live_words (ok_Space_live_words W) (hr.mono (by decide)) W.b_Space_live_words .nil pass0 ) (pa_cons (pv 8) pa_nil))))))))))))), ?_⟩
  refine z_start (σ := [some _, some _, some _, some _, none, none, none, none, none, none, none, none, none, none]) rfl ?_
  one_sign
  obtain ⟨dxs, st, dx, wl, pl, pr, rt, hd, al, co, least, kvs, eX, ss⟩ := S0
  have hmem : ∀ o, o ∈ O ↔ o ∈ OL := fun o => hP.mem_iff
  have eD : Dm O (0 :: (rs ++ hs)) = Dm OL (0 :: (rs ++ hs)) := Dm_pm hmem _
  refine ⟨d, wd, AO, OL, rs ++ hs, rfl, R, fun o ho => Nat.le_trans (ss.sz o ((hmem o).mpr ho)) (by decide), fun o ho => ss.nn o ((hmem o).mpr ho), by rw [← hP.length_eq]; exact hlen, by have := ss.rl; have := ss.hl; rw [List.length_append]; omega, fun DA A F H1 hDA DA1 LA ndF hF hA0 f1 => ?_⟩
  have hF : ∀ n, n ∈ F ↔ Reach O (0 :: (rs ++ hs)) n := fun n => (hF n).trans ⟨Reach.pm fun o => (hmem o).mpr, Reach.pm fun o => (hmem o).mp⟩
  have hFO : F.length ≤ O.length := live_len ndF fun n hn => ((hF n).mp hn).live
  have ss1 := ss.keep f1
  one_sign
  refine ⟨sp, dxs, st, dx, wl, pl, pr, rt, hd, al, co, least, O, kvs, rs, hs, rfl, ss1, fun q1 ns1 H2 M1 pm1 ps1 f2 => ?_⟩
  have ss2 := ss1.keep f2
  one_sign
  refine ⟨sp, X, O, rs, hs, t, rfl, ⟨dxs, st, dx, wl, pl, pr, rt, hd, al, co, least, kvs, eX, ss2⟩, fun q D1 D2 F1 F2 ow ow2 wt H3 hD1 hD2 hq D13 D23 hF1 hF2 df1 df2 hwt f3 => ?_⟩
  refine z_gtup hq rfl ?_
  one_sign
  have ss3 := ss2.keep f3
  refine ⟨sp, dxs, st, dx, wl, pl, pr, rt, hd, al, co, least, O, kvs, rs, hs, rfl, ss3, fun q2 ns2 H4 M2 pm2 ps2 f4 => ?_⟩
  have en : ns2 = ns1 := sorted_eq (pm2.trans pm1.symm) ps2 ps1
  subst en
  have M14 := (M1.keep f3).keep f4
  one_sign
  refine ⟨_, _, M2.dp, M14.dp, mk_shaped _ _ _ _ _, mk_shaped _ _ _ _ _, ?_⟩
  rw [mk_eqv]
  one_sign
  have D14 := f4.g0 D13
  have D24 := f4.g0 D23
  have f24 := (f2.trans f3).trans f4
  have DA4 := f24.g0 DA1
  have p1 : F1.Perm F := perm_of hF1.nd ndF fun n => (hF1.re n).trans (hF n).symm
  have p2 : F2.Perm F := perm_of hF2.nd ndF fun n => (hF2.re n).trans (hF n).symm
  have Fl := ss.len
  have F1l := p1.length_eq
  have F2l := p2.length_eq
  refine z_isi0 (ClsV.ty _) (TyX.base (TyOf.dK D14)) kt_dict_dict ?_
  one_sign
  refine z_sortedD D14 (mK_keys _ _) fun ms1 b1 H5 pb1 ob1 hb1 f5 b15 => ?_
  one_sign
  refine z_sortedD (f5.g0 DA4) (dL_keys LA.len) fun ms2 b2 H6 pb2 ob2 hb2 f6 b26 => ?_
  have em : ms2 = ms1 := sorted_eq (pb2.trans (p1.symm.trans pb1.symm)) ob2 ob1
  subst em
  one_sign
  have := pb2.length_eq
  refine ⟨b1, b2, ms2, rfl, f6.g0 b15, b26, by omega, ?_⟩
  have D26 := f6.g0 (f5.g0 D24)
  have DA6 := f6.g0 (f5.g0 DA4)
  one_sign
  refine z_isi0 (ClsV.ty _) (TyX.base (TyOf.dK D26)) kt_dict_dict ?_
  one_sign
  refine z_sortedD D26 (mK_keys _ _) fun ms3 b3 H7 pb3 ob3 hb3 f7 b37 => ?_
  one_sign
  refine z_sortedD (f7.g0 DA6) (dL_keys LA.len) fun ms4 b4 H8 pb4 ob4 hb4 f8 b48 => ?_
  have em : ms4 = ms3 := sorted_eq (pb4.trans (p2.symm.trans pb3.symm)) ob4 ob3
  subst em
  one_sign
  have := pb4.length_eq
  refine ⟨b3, b4, ms4, rfl, f8.g0 b37, b48, by omega, ?_⟩
  have f48 := ((f5.trans f6).trans f7).trans f8
  have f18 := f24.trans f48
  have D18 := f48.g0 D14
  have D28 := f48.g0 D24
  have DA8 := f48.g0 DA4
  have LA8 := LA.keep f18
  have f08 := f1.trans f18
  have df : Dfor F (Dm O (0 :: (rs ++ hs))) ow := df1.perm fun x => p1.mem_iff
  have DA2 := f2.g0 DA1
  have n1A : D1 ≠ DA := (ne_of_none DA2 hD1).symm
  have n2A : D2 ≠ DA := (ne_of_none DA2 hD2).symm
  have wtF : ∀ x ∈ F, wt x = Sm (szf O) F (Un (Dm OL (0 :: (rs ++ hs))) x) := fun x hx => by rw [hwt x (p2.mem_iff.mpr hx), Sm.perm p2, eD]
  rw [eD] at df
  clear D14 D24 DA4 D26 DA6 M2 M1 M14 D13 D23
  have hDA0 : ∀ q ∈ [DA], H q = none := fun q hq => by rw [List.mem_singleton.mp hq]; exact hDA
  one_sign
  refine z_forK (td := tVar 4) [] (by simp) (fun H' R h => ⟨_, rfl, h⟩) DA8 (fun i σ H' => ∃ (v9 v10 v11 v12 : Option V), σ = [some (.ref sp), some (.ref d), some (.ref wd), some (.int t), some (.ref DA), some (.ref q1), some (.ref D1), some (.ref D2), some (.int (Sm (szf O) F (Rt (Dm OL (0 :: (rs ++ hs))) ow (F.take i)))), v9, v10, v11, v12, none])
    (fun od HF L => ⟨_, _, _, _, by rw [Sm.none fun y _ ⟨x, hx, _⟩ => by simp at hx]⟩) (fun od HF i kk v σ H9 L hk hi hI f9 hd9 => ?_) (fun σ H9 H10 hI f10 d10 f810 => ?_)
  · obtain ⟨v9, v10, v11, v12, rfl⟩ := hI
    obtain ⟨n, a, hn, ha, rfl, rfl⟩ := dL_at hk
    have hnF := List.mem_of_getElem? hn
    have f09 : Fr [] H H9 := (f08.inF L.f hDA0).trans f9
    have R9 := R.keep f09
    have R9d := R9.d
    have LA9 : LsA H9 A F (Gx OL (0 :: (rs ++ hs)) F) := (LA8.keepF L.f fun a ha => nin fun z => by have := hA0 a ha; rw [z] at ha; obtain ⟨j, hj⟩ := List.getElem?_of_mem ha; obtain ⟨x, hx⟩ : ∃ x, F[j]? = some x := ⟨_, List.getElem?_eq_getElem (by rw [← LA8.len]; exact (List.getElem?_eq_some_iff.mp hj).1)⟩; have h1 := LA8.it j _ x hj hx; rw [DA8] at h1; cases h1).keep f9
    have D19 := f9.g0 (L.f.g D18 (nin n1A))
    have D29 := f9.g0 (L.f.g D28 (nin n2A))
    show gName 9 (V.int n) _ _ _
    one_sign
    refine ⟨DA, od, A, F, OL, _, n, ow, rfl, hd9, LA9, ndF, hnF, df, ?_⟩
    have hle : (dL A F).length = F.length := dL_len LA.len
    rw [hle] at hi
    have v1 : valV (mK F1 fun n => ovV (ow n)) (.inl n) = some (ovV (ow n)) := mK_val hF1.nd (p1.mem_iff.mpr hnF)
    have v2 : valV (mK F2 fun n => V.int (wt n)) (.inl n) = some (.int (wt n)) := mK_val hF2.nd (p2.mem_iff.mpr hnF)
    refine Evl.q_cut (M := fun σ H' => H' = H9 ∧ σ = [some (.ref sp), some (.ref d), some (.ref wd), some (.int t), some (.ref DA), some (.ref q1), some (.ref D1), some (.ref D2), some (.int (Sm (szf O) F (Rt (Dm OL (0 :: (rs ++ hs))) ow (F.take i)))), some (.int n), some (ovV (ow n)), v11, v12, none]) ?_ ?_
    · cases ho : ow n with
      | none =>
        rw [ho] at v1
        rw [show ovV none = V.non from rfl] at v1 ⊢
        simp only [List.set_cons_succ, List.set_cons_zero]
        one_sign
        refine z_ixD D19 v1 ?_
        one_sign
        exact ⟨rfl, rfl⟩
      | some y =>
        rw [ho] at v1
        rw [show ovV (some y) = V.int y from rfl] at v1 ⊢
        simp only [List.set_cons_succ, List.set_cons_zero]
        one_sign
        refine z_ixD D19 v1 ?_
        one_sign
        refine ⟨_, _, rfl, ?_⟩
        one_sign
        rw [decide_eq_true rfl]
        one_sign
        exact ⟨rfl, rfl⟩
    rintro σ H10 ⟨rfl, rfl⟩
    one_sign
    refine z_lcF (td := tVar 4) (fun R h => ⟨_, rfl, h⟩) hd9 (fun j xs H' => xs = (Bl (Dm OL (0 :: (rs ++ hs))) n (F.take j)).map V.int) (fun R H' _ _ => rfl) (fun R1 j kk v xs H11 hR1 hk2 hj hl hxs hR11 f11 => ?_) (fun B xs H11 hB hxs hl hB11 f11 => ?_)
    · obtain ⟨x, b, hx, hb, rfl, rfl⟩ := dL_at hk2
      have hxs : xs = (Bl (Dm OL (0 :: (rs ++ hs))) n (F.take j)).map V.int := hxs
      subst hxs
      rw [hle] at hj
      have ht : Bl (Dm OL (0 :: (rs ++ hs))) n (F.take (j + 1)) = Bl (Dm OL (0 :: (rs ++ hs))) n (F.take j) ++ Bl (Dm OL (0 :: (rs ++ hs))) n [x] := by unfold Bl; rw [List.take_succ, hx, List.filter_append]; rfl
      have yes : Un (Dm OL (0 :: (rs ++ hs))) n x → LcY H10 R1 (fun j xs H' => xs = (Bl (Dm OL (0 :: (rs ++ hs))) n (F.take j)).map V.int) (j + 1) (V.int x) H11 := fun u =>
        z_lcY hR1 hR11 f11 hl (by rw [sizeLine_eq]; omega) fun H5 _ _ _ => by
          show _ = _
          rw [ht, List.map_append]
          unfold Bl
          rw [List.filter_cons_of_pos (by simpa using u)]
          rfl
      have no : ¬ Un (Dm OL (0 :: (rs ++ hs))) n x → LcI H10 R1 (fun j xs H' => xs = (Bl (Dm OL (0 :: (rs ++ hs))) n (F.take j)).map V.int) (j + 1) H11 := fun u =>
        z_lcN hR11 f11 hl (by
          show _ = _
          rw [ht]
          unfold Bl
          rw [List.filter_cons_of_neg (a := x) (by simpa using u), List.filter_nil, List.append_nil])
      have hd11 := f11.g0 hd9
      have LA11 := LA9.keep f11
      show gName 13 (V.int x) _ _ _
      leaf_len
      by_cases e : x = n
      · rw [decide_eq_true e]
        one_sign
        exact yes (.inl e)
      · rw [decide_eq_false e]
        one_sign
        refine z_ixDf hd11 (dL_val LA.len ndF hx hb) ?_
        one_sign
        refine z_inLP (LA11.it j b x hb hx) rfl (intsF _) ?_
        rw [inVI]
        by_cases u : Dm OL (0 :: (rs ++ hs)) n x
        · rw [decide_eq_true (mem_Gx.mpr ⟨hnF, u⟩)]
          one_sign
          exact yes (.inr u)
        · rw [decide_eq_false fun z => u (mem_Gx.mp z).2]
          one_sign
          exact no fun z => z.elim e u
    have hxs : xs = (Bl (Dm OL (0 :: (rs ++ hs))) n (F.take (dL A F).length)).map V.int := hxs
    rw [hle, List.take_length] at hxs
    subst hxs
    one_sign
    refine z_lcL hB11 (fun j xs H' => xs = (((Bl (Dm OL (0 :: (rs ++ hs))) n F).take j).map (szf O)).map V.int) (fun R H' _ _ => rfl) (fun R1 j x xs H12 hR1 hx hj hl2 hxs hR12 f12 => ?_) (fun B2 xs H12 hB2 hxs hl2 hB12 f12 => ?_)
    · have hxs : xs = (((Bl (Dm OL (0 :: (rs ++ hs))) n F).take j).map (szf O)).map V.int := hxs
      subst hxs
      rw [List.getElem?_map] at hx
      obtain ⟨x, hxB, rfl⟩ := Option.map_eq_some_iff.mp hx
      have hxF : x ∈ F := by have := List.mem_of_getElem? hxB; unfold Bl at this; exact (List.mem_filter.mp this).1
      obtain ⟨u, o, ho, hlo, hon⟩ := (R.live x).mpr (by
        obtain ⟨u, o, h1, h2, h3⟩ := ((hF x).mp hxF).live.pm fun o => (hmem o).mp
        exact List.mem_map.mpr ⟨o, List.mem_of_getElem? h1, h3⟩)
      subst hon
      obtain ⟨b, hb⟩ : ∃ b, AO[u]? = some b := ⟨_, List.getElem?_eq_getElem (by rw [R.len]; exact (List.getElem?_eq_some_iff.mp ho).1)⟩
      have R12 := R9.keep (f11.trans f12)
      have hrow := R12.rows.it u b _ hb (by rw [List.getElem?_map, ho]; rfl)
      leaf_len
      refine z_ixD R12.d (dR_val R.len R.nd ho hb) ?_
      one_sign
      rw [List.length_map]
      refine z_lcY hR1 hR12 f12 hl2 (by rw [List.length_map] at hj; have : (Bl (Dm OL (0 :: (rs ++ hs))) n F).length ≤ F.length := by unfold Bl; exact List.length_filter_le _ _
                                        rw [sizeLine_eq]; omega) fun H5 _ _ _ => ?_
      show _ = _
      rw [List.take_succ, hxB, List.map_append, List.map_append]
      show _ = _ ++ [V.int (szf O o.num)]
      rw [szf_of ss.nd ((hmem o).mpr (List.mem_of_getElem? ho)) hlo, show (2 : Int) + ((rowOf o).length : Int) = 3 + (o.sl.length : Int) by show (2 : Int) + ((o.sl.length + 1 : Nat) : Int) = _; omega]
    have hxs : xs = (((Bl (Dm OL (0 :: (rs ++ hs))) n F).take ((Bl (Dm OL (0 :: (rs ++ hs))) n F).map V.int).length).map (szf O)).map V.int := hxs
    rw [List.length_map, List.take_length] at hxs
    subst hxs
    one_sign
    refine ⟨_, _, rfl, SqL.of hB12, ?_⟩
    rw [Bl_sum]
    one_sign
    have f1012 := f11.trans f12
    refine z_ixD (f1012.g0 D29) v2 ?_
    one_sign
    refine ⟨_, _, rfl, ?_⟩
    one_sign
    rw [decide_eq_true (wtF n hnF)]
    one_sign
    have hst : Sm (szf O) F (Rt (Dm OL (0 :: (rs ++ hs))) ow (F.take (i + 1))) = Sm (szf O) F (Rt (Dm OL (0 :: (rs ++ hs))) ow (F.take i)) + (if ow n = none then Sm (szf O) F (Un (Dm OL (0 :: (rs ++ hs))) n) else 0) := by
      by_cases ho : ow n = none
      · rw [if_pos ho, ← Sm.or fun y hy ⟨x, hx, hox, u⟩ u' => roots_apart df (List.mem_of_mem_take hx) hnF hy (fun z => nd_take ndF hn (z ▸ hx)) hox ho u u']
        refine Sm.congr fun y _ => ?_
        unfold Rt
        rw [List.take_succ, hn]
        constructor
        · rintro ⟨x, hx, h1, h2⟩
          rcases List.mem_append.mp hx with h | h
          · exact .inl ⟨x, h, h1, h2⟩
          · rw [show x = n by simpa using h] at h2; exact .inr h2
        · rintro (⟨x, hx, h⟩ | h)
          · exact ⟨x, List.mem_append_left _ hx, h⟩
          · exact ⟨n, by simp, ho, h⟩
      · rw [if_neg ho, Int.add_zero]
        refine Sm.congr fun y _ => ?_
        unfold Rt
        rw [List.take_succ, hn]
        constructor
        · rintro ⟨x, hx, h1, h2⟩
          rcases List.mem_append.mp hx with h | h
          · exact ⟨x, h, h1, h2⟩
          · rw [show x = n by simpa using h] at h1; exact absurd h1 ho
        · rintro ⟨x, hx, h⟩
          exact ⟨x, List.mem_append_left _ hx, h⟩
    cases ho : ow n with
    | none =>
      rw [ho, if_pos rfl] at hst
      rw [show ovV none = V.non from rfl]
      simp only [List.set_cons_succ, List.set_cons_zero]
      one_sign
      rw [decide_eq_true trivial]
      one_sign
      refine ⟨⟨_, _, _, _, by rw [hst]⟩, f9.trans f1012⟩
    | some y =>
      rw [ho, if_neg (by intro z; cases z), Int.add_zero] at hst
      rw [show ovV (some y) = V.int y from rfl]
      simp only [List.set_cons_succ, List.set_cons_zero]
      one_sign
      refine ⟨⟨_, _, _, _, by rw [hst]⟩, f9.trans f1012⟩
  · obtain ⟨v9, v10, v11, v12, rfl⟩ := hI
    rw [dL_len LA.len, List.take_length]
    have f010 := f08.trans f810
    have hsp10 := (ss.keep f010).S.sp
    one_sign
    refine ⟨sp, X, O, rs, hs, rfl, ⟨dxs, st, dx, wl, pl, pr, rt, hd, al, co, least, kvs, eX, ss.keep f010⟩, fun F9 H11 nd9 hF9 f11 => ?_⟩
    have e9 : (F9.map (szf O)).sum = Sm (szf O) F (Rt (Dm OL (0 :: (rs ++ hs))) ow F) := by
      rw [Sm.all fun y hy => ?_]
      · exact sum_perm ((perm_of nd9 ndF fun n => (hF9 n).trans (hF n).symm).map _)
      · obtain ⟨k, hk⟩ := List.getElem?_of_mem (p1.mem_iff.mpr hy)
        obtain ⟨x, hx, h1, h2⟩ := root_of (df.perm fun x => p1.mem_iff.symm) (fun k x y hx _ h => dm_before hF1 hx (by rw [eD]; exact h)) k y hk
        exact ⟨x, p1.mem_iff.mp hx, h1, h2⟩
    rw [e9]
    one_sign
    refine ⟨_, _, rfl, ?_⟩
    one_sign
    rw [decide_eq_true rfl]
    exact k H11 (f010.trans f11)
end

end LX
namespace LX
open PySem PySem.Spec PyProof.Rows L2 NdefX
theorem SS.someX {C CS PT : Addr} {H : Hp} {sp dxs st dx wl pl pr rt hd : Addr} {al co least : Int} {O : List Ob} {kvs : List (Key × V)} {rs hs : List Int} (s : SS C CS PT H sp dxs st dx wl pl pr rt hd al co least O kvs rs hs) : ∀ b ∈ [sp, st, wl, pl, rt, hd], ∃ o, H b = some o ∧ ∀ xs, o ≠ .tup xs := by
  intro b hb
  simp only [List.mem_cons, List.not_mem_nil, or_false] at hb
  rcases hb with e | e | e | e | e | e <;> subst e
  · exact ⟨_, s.S.sp, by intro _ z; cases z⟩
  · exact ⟨_, s.T.st, by intro _ z; cases z⟩
  · exact ⟨_, s.T.wl, by intro _ z; cases z⟩
  · exact ⟨_, s.T.pl, by intro _ z; cases z⟩
  · exact ⟨_, s.S.rt, by intro _ z; cases z⟩
  · exact ⟨_, s.S.hd, by intro _ z; cases z⟩
section
variable {P : Program} {w : World} {K : PySem.W.Frag} {mg : Str → Option Value} {base : Heap}
end

end LX
namespace LX
open PySem PySem.Spec PyProof.Rows L2 NdefX
theorem Reach.congr {O : List Ob} {r1 r2 : List Int} {n : Int} (h : Reach O r1 n) (e : ∀ x ∈ r1, x ∈ r2) : Reach O r2 n := by
  induction h with
  | root h1 h2 h3 => exact .root (e _ h1) h2 h3
  | step _ h1 h2 h3 h4 h5 h6 ih => exact .step ih h1 h2 h3 h4 h5 h6
theorem kept_live {O : List Ob} {F : List Int} (h : ∀ o ∈ O, o.live = true) : kept O F = O.filter fun p => decide (p.num ∈ F) := by
  unfold kept
  rw [List.filter_eq_self.mpr h]
section
variable {P : Program} {w : World} {K : PySem.W.Frag} {mg : Str → Option Value} {base : Heap}
end

end LX
namespace LX
open PySem PySem.Spec PyProof.Rows L2 NdefX
set_option hygiene false in
local macro_rules | `(tactic| k_memK) => `(tactic| first | exact W.na_Store_room | exact W.na_Store_entries | exact W.na_Store_words | exact W.na_Store__places | exact W.na_Store__least | exact W.na_Space_store | exact W.na_Space_pressure | exact W.na_Space_always | exact W.na_Space_allocations | exact W.na_Space_collections | exact W.na_Space__roots | exact W.na_Space__held | exact W.na_Space__saved)
set_option hygiene false in
local macro_rules | `(tactic| k_ownIn) => `(tactic| first | exact W.C_Store | exact W.C_Space)
local macro_rules | `(tactic| none_booked) => `(tactic| first | assumption | (refine Fr.g0 (by assumption) ?_; none_booked))
local macro_rules | `(tactic| one_sign) => `(tactic| repeat (first
  | refine Stp.h ?_
  | ((with_reducible refine' z_fld1 ?k0 ?k1 ?k2 ?k3 ?_); (case k0 => none_booked); (case k1 => k_ownIn); (case k2 => k_memK); (case k3 => rfl))
  | ((with_reducible refine' z_meth1 ?k0 ?k1 ?_); (case k0 => none_booked); (case k1 => rfl))
  | ((with_reducible refine' z_bmL ?k0 ?_); (case k0 => none_booked))
  | ((with_reducible refine' z_lenL ?k0 ?_); (case k0 => none_booked))
  | ((with_reducible refine' z_lenT ?k0 ?_); (case k0 => none_booked))
  | ((with_reducible refine' z_lenD ?k0 ?_); (case k0 => none_booked))
  | ((with_reducible refine' z_truL ?k0 ?_); (case k0 => none_booked))
  | ((with_reducible refine' z_truD ?k0 ?_); (case k0 => none_booked))
  | ((with_reducible refine' z_truT ?k0 ?_); (case k0 => none_booked))
  | ((with_reducible refine' z_inDIP ?k0 ?_); (case k0 => none_booked))
  | ((with_reducible refine' z_inDIN ?k0 ?_); (case k0 => none_booked))
  | ((with_reducible refine' z_inDfP ?k0 ?_); (case k0 => none_booked))
  | ((with_reducible refine' z_inDfN ?k0 ?_); (case k0 => none_booked))
  | ((with_reducible refine' z_iList1 ?k0 ?_); (case k0 => none_booked))
  | ((with_reducible refine' z_isi0 ?k0 ?k1 ?k2 ?_); (case k0 => exact (ClsV.ty _)); (case k1 => exact (TyX.base (TyOf.lst (by none_booked)))); (case k2 => first | exact kt_list_int | exact kt_list_bool | exact kt_list_str | exact kt_list_list | exact kt_list_tuple | exact kt_list_dict))
  | ((with_reducible refine' z_rI ?k0 ?_); (case k0 => first | exact (by decide : (0 : Int) < _) | exact ⟨by decide, by decide⟩ | exact ⟨by decide, by decide, by decide⟩ | (show (0 : Int) < _; omega)))
  | ((with_reducible refine' z_mulI ?k0 ?_); (case k0 => first | exact Or.inr ⟨by decide, by decide⟩ | exact Or.inl ⟨by decide, by decide⟩ | exact Or.inl ⟨by omega, by omega⟩ | exact Or.inr ⟨by omega, by omega⟩))))
local macro_rules | `(tactic| leaf_len) => `(tactic| (simp only [wipe, List.map_cons, List.map_nil, List.set_cons_zero, List.set_cons_succ]; one_sign; refine z_ok rfl ?_; one_sign))
theorem SS.keepX {C CS PT : Addr} {H H' : Hp} {sp dxs st dx wl pl pr rt hd : Addr} {al co least : Int} {O : List Ob} {kvs : List (Key × V)} {rs hs : List Int} (s : SS C CS PT H sp dxs st dx wl pl pr rt hd al co least O kvs rs hs) {F : List Addr} (f : Fr F H H') (h1 : ∀ b ∈ F, b ∉ [sp, st, wl, pl, rt, hd])
    (h2 : ∀ b ∈ F, ∃ o, H b = some o ∧ (∀ ps, o ≠ .tbl ps) ∧ (∀ φ, o ≠ .ext φ) ∧ o ≠ .lst []) : SS C CS PT H' sp dxs st dx wl pl pr rt hd al co least O kvs rs hs := by
  have hpr : pr ∉ F := fun hm => by
    obtain ⟨o, e, _, _, n⟩ := h2 pr hm
    rw [s.S.pr] at e
    exact n (Option.some.inj e).symm
  refine ⟨s.S.keep f fun b hb hm => ?_, s.T.keep f fun b hb hm => ?_, s.N, s.G, s.sz, s.nn, s.lv, s.len, s.fln, s.rl, s.hl, tab_out s.tab f fun b hb => ?_⟩
  · simp only [List.mem_cons, List.not_mem_nil, or_false] at hb
    rcases hb with e | e | e | e
    · exact h1 b hm (by simp [e])
    · rw [e] at hm; exact hpr hm
    · exact h1 b hm (by simp [e])
    · exact h1 b hm (by simp [e])
  · simp only [List.mem_cons, List.not_mem_nil, or_false] at hb
    exact h1 b hm (by rcases hb with e | e | e <;> simp [e])
  · obtain ⟨o, e, n1, n2, _⟩ := h2 b hb
    exact ⟨o, e, n1, n2⟩
theorem flat_filter (O : List Ob) (p : Ob → Bool) : (flat (O.filter p)).length ≤ (flat O).length := by
  induction O with
  | nil => exact Nat.le_refl _
  | cons a r ih =>
    have e : (flat (a :: r)).length = (fl a).length + (flat r).length := by
      show (fl a ++ flat r).length = _
      rw [List.length_append]
    rw [e]
    by_cases h : p a
    · rw [List.filter_cons_of_pos h]
      have e2 : (flat (a :: r.filter p)).length = (fl a).length + (flat (r.filter p)).length := by
        show (fl a ++ flat (r.filter p)).length = _
        rw [List.length_append]
      omega
    · rw [List.filter_cons_of_neg h]
      omega
/-- what is left behind a collection -/
theorem SS.left {C CS PT : Addr} {H H' : Hp} {sp dxs st dx wl pl pr rt hd : Addr} {al co least : Int} {O : List Ob} {kvs : List (Key × V)} {rs hs F : List Int} (s : SS C CS PT H sp dxs st dx wl pl pr rt hd al co least O kvs rs hs) {wl' pl' : Addr} {al' co' least' : Int}
    (S' : SpaceAt H' CS sp dxs st pr rt hd al' co' rs hs) (T' : StoreAt H' C st dx wl' pl' 100000 100000 least' (flat (kept O F)) (pD (tbl (kept O F)))) (G' : Good (kept O F) (pD (tbl (kept O F))) least') (tab : LamX.TabS H' PT qLam) (hw : H wl' = none) :
    SS C CS PT H' sp dxs st dx wl' pl' pr rt hd al' co' least' (kept O F) (pD (tbl (kept O F))) rs hs := by
  have sub : ∀ o ∈ kept O F, o ∈ O := fun o ho => (List.mem_filter.mp (List.mem_filter.mp ho).1).1
  refine ⟨S', T', ⟨s.N.a, ?_, ?_, ?_, s.N.b, s.N.c, s.N.d⟩, G', fun o ho => s.sz o (sub o ho), fun o ho => s.nn o (sub o ho), fun o ho => s.lv o (sub o ho), ?_, ?_, s.rl, s.hl, tab⟩
  · exact ne_of_none s.S.pr hw
  · exact ne_of_none s.S.rt hw
  · exact ne_of_none s.S.hd hw
  · exact Nat.le_trans (Nat.le_trans (List.length_filter_le _ _) (List.length_filter_le _ _)) s.len
  · exact Nat.le_trans (Nat.le_trans (flat_filter _ _) (flat_filter _ _)) s.fln
/-- the space and the law's rows beside it -/
structure Stt (C CS PT : Addr) (H : Hp) (sp d wd : Addr) (X AO : List Addr) (O OL : List Ob) (rs hs : List Int) : Prop where
  S : Spc C CS PT H sp X O rs hs
  R : Rws H d wd AO OL (rs ++ hs)
  m : ∀ o, o ∈ O ↔ o ∈ OL
  len : O.length ≤ 29
  out : ∀ b ∈ d :: wd :: AO, b ∉ X
  nd : AO.Nodup
  w : wd ∉ AO
theorem Stt.row {C CS PT : Addr} {H : Hp} {sp d wd : Addr} {X AO : List Addr} {O OL : List Ob} {rs hs : List Int} (s : Stt C CS PT H sp d wd X AO O OL rs hs) {a : Addr} (h : a ∈ AO) : ∃ (i : Nat) (o : Ob), AO[i]? = some a ∧ OL[i]? = some o ∧ H a = some (.lst ((rowOf o).map V.int)) := by
  obtain ⟨i, hi⟩ := List.getElem?_of_mem h
  obtain ⟨o, ho⟩ : ∃ o, OL[i]? = some o := ⟨_, List.getElem?_eq_getElem (by rw [← s.R.len]; exact (List.getElem?_eq_some_iff.mp hi).1)⟩
  exact ⟨i, o, hi, ho, s.R.rows.it i a _ hi (by rw [List.getElem?_map, ho]; rfl)⟩
theorem ob_nd {O : List Ob} (h : (O.map (·.num)).Nodup) : O.Nodup := List.Pairwise.of_map (·.num) (fun a b hab e => hab (by rw [e])) h
theorem Spc.ndO {C CS PT : Addr} {H : Hp} {sp : Addr} {X : List Addr} {O : List Ob} {rs hs : List Int} (s : Spc C CS PT H sp X O rs hs) : (O.map (·.num)).Nodup := by
  obtain ⟨dxs, st, dx, wl, pl, pr, rt, hd, al, co, least, kvs, rfl, ss⟩ := s
  exact ss.nd
theorem Stt.perm {C CS PT : Addr} {H : Hp} {sp d wd : Addr} {X AO : List Addr} {O OL : List Ob} {rs hs : List Int} (s : Stt C CS PT H sp d wd X AO O OL rs hs) : O.Perm OL := (List.perm_ext_iff_of_nodup (ob_nd s.S.ndO) (ob_nd s.R.nd)).mpr s.m
theorem Spc.keep' {C CS PT : Addr} {H H' : Hp} {sp : Addr} {X : List Addr} {O : List Ob} {rs hs : List Int} (s : Spc C CS PT H sp X O rs hs) {F : List Addr} (f : Fr F H H') (h1 : ∀ b ∈ F, b ∉ X)
    (h2 : ∀ b ∈ F, ∃ o, H b = some o ∧ (∀ ps, o ≠ .tbl ps) ∧ (∀ φ, o ≠ .ext φ) ∧ o ≠ .lst []) : Spc C CS PT H' sp X O rs hs := by
  obtain ⟨dxs, st, dx, wl, pl, pr, rt, hd, al, co, least, kvs, rfl, ss⟩ := s
  exact ⟨dxs, st, dx, wl, pl, pr, rt, hd, al, co, least, kvs, rfl, ss.keepX f h1 h2⟩
theorem Spc.someO {C CS PT : Addr} {H : Hp} {sp : Addr} {X : List Addr} {O : List Ob} {rs hs : List Int} (s : Spc C CS PT H sp X O rs hs) {b : Addr} (hb : H b = none) : b ∉ X := fun hm => by
  obtain ⟨dxs, st, dx, wl, pl, pr, rt, hd, al, co, least, kvs, rfl, ss⟩ := s
  obtain ⟨o, e, _⟩ := ss.someX b hm
  rw [hb] at e; cases e
/-- a pair of lists, sifted -/
theorem dR_filter {A : List Addr} {O : List Ob} (h : A.length = O.length) (p : Ob → Bool) (q : Key × V → Bool) (hq : ∀ o ∈ O, ∀ a, q (.inl o.num, .ref a) = p o) : ∃ A', A'.length = (O.filter p).length ∧ (dR A O).filter q = dR A' (O.filter p) ∧ (∀ (i : Nat) (a : Addr) (o : Ob), A'[i]? = some a → (O.filter p)[i]? = some o → ∃ j : Nat, A[j]? = some a ∧ O[j]? = some o) ∧ A'.Sublist A := by
  induction O generalizing A with
  | nil => exact ⟨[], rfl, by cases A <;> rfl, fun i a o h => by simp at h, List.nil_sublist _⟩
  | cons o r ih =>
    cases A with
    | nil => cases h
    | cons a A =>
      obtain ⟨A', h1, h2, h3, h4⟩ := ih (A := A) (by simpa using h) fun o ho => hq o (List.mem_cons_of_mem _ ho)
      have e : dR (a :: A) (o :: r) = (.inl o.num, .ref a) :: dR A r := rfl
      rw [e]
      by_cases hp : p o
      · refine ⟨a :: A', by rw [List.filter_cons_of_pos hp, List.length_cons, List.length_cons, h1], ?_, fun i b o' hb ho' => ?_, h4.cons_cons a⟩
        · rw [List.filter_cons_of_pos (by rw [hq o List.mem_cons_self]; exact hp), h2, List.filter_cons_of_pos hp]; rfl
        · rw [List.filter_cons_of_pos hp] at ho'
          cases i with
          | zero => exact ⟨0, hb, ho'⟩
          | succ i =>
            obtain ⟨j, hj⟩ := h3 i b o' (by simpa using hb) (by simpa using ho')
            exact ⟨j + 1, hj⟩
      · refine ⟨A', by rw [List.filter_cons_of_neg hp, h1], ?_, fun i b o' hb ho' => ?_, h4.cons a⟩
        · rw [List.filter_cons_of_neg (by rw [hq o List.mem_cons_self]; exact hp), h2, List.filter_cons_of_neg hp]
        · rw [List.filter_cons_of_neg hp] at ho'
          obtain ⟨j, hj⟩ := h3 i b o' hb ho'
          exact ⟨j + 1, hj⟩
def kOut (G : List Int) (kv : Key × V) : Bool := match kv.1 with
  | .inl n => decide (n ∉ G)
  | .inr _ => true
theorem kOut_drop {G : List Int} {n : Int} (kvs : List (Key × V)) : dropK (kvs.filter (kOut G)) (.inl n) = kvs.filter (kOut (G ++ [n])) := by
  unfold dropK
  rw [List.filter_filter]
  refine List.filter_congr fun kv _ => ?_
  obtain ⟨k, v⟩ := kv
  cases k with
  | inl m =>
    show (decide ((Sum.inl m : Key) ≠ Sum.inl n) && decide (m ∉ G)) = decide (m ∉ G ++ [n])
    by_cases h1 : m = n
    · subst h1; simp
    · by_cases h2 : m ∈ G <;> simp [h1, h2]
  | inr m => rfl
def gone (O : List Ob) (F : List Int) : List Int := (O.map (·.num)).filter fun n => decide (n ∉ F)
section
variable {P : Program} {w : World} {K : PySem.W.Frag} {mg : Str → Option Value} {base : Heap}
def sp_lcoll (C CS PT : Addr) : Sp := fun vs H Q _ => ∃ sp d wd X AO O OL rs hs, vs = [.ref sp, .ref d, .ref wd] ∧ Stt C CS PT H sp d wd X AO O OL rs hs ∧
  ∀ H' X' AO' O' OL', Stt C CS PT H' sp d wd X' AO' O' OL' rs hs → (∀ b ∈ X', b ∈ X ∨ H b = none) → (∀ b ∈ AO', b ∈ AO) → FrN (X ++ d :: wd :: AO) H H' → Q (.bl true) H'
theorem ok__law_collected (W : WT P K mg base) : FnOk P w K mg base CX0 7 W.f__law_collected W.fd__law_collected ["_law_space_here", "_law_rows_here", "_law_words"] (sp_lcoll W.c_Store W.c_Space W.PT_Store_close_up) := by
  refine W.F__law_collected.ok sc__law_collected (fun vs H Q E h => by obtain ⟨sp, d, wd, X, AO, O, OL, rs, hs, rfl, s, k⟩ := h; rfl) (fun cdv A outer s H vs Q E hr h => ?_)
  obtain ⟨sp, d, wd, X, AO, O, OL, rs, hs, rfl, s, k⟩ := h
  have hu1 := hu_of hr
  have hu64 := hu64_of hr
  refine ⟨_, (pss_cons (ps_set (i := 3) sc__law_collected.nd rfl (by first | exact Or.inl rfl | exact Or.inr rfl) (pe_call (ok__law_reached W) (hr.mono (by decide)) rfl W.g__law_reached W.F__law_reached.kp W.b__law_reached .nil pass0 (pa_cons (pv 1) (pa_cons (pv 2) (pa_cons (pe_un un_neg pe_int) pa_nil)))))
      (pss_cons (ps_lock (ps_setLc (i := 4) (own := [("_law_number_here", 5)]) (g := gName 5)  rfl sc__law_collected.nd rfl rfl (sw_true rfl rfl rfl (by decide +kernel)) (pi_keys (pv 1)) (blkOk_by (N := N__law_collected) (sc := defScope s__law_collected) (by first | decide +kernel | rfl)) (fun _ _ _ _ _ => (pg_name (i := 5) sc__law_collected.nd rfl (by first | exact Or.inl rfl | exact Or.inr rfl))) (fun _ _ _ _ _ => pts_one (pt_cmpR (op_ninUK (K := K) rfl (by exact hu1)) (pv 5) (pv 3) (by first | exact nomark _ | rfl))) (fun _ _ _ _ _ => (pv 5))))
      (pss_cons (ps_for PassesOwn.never rfl (pi_list (pv 4)) (pg_name (i := 5) sc__law_collected.nd rfl (by first | exact Or.inl rfl | exact Or.inr rfl)) (pss_one (ps_expr (pe_dpop1 (pv 1) (pv 5) ⟨rfl, rfl, rfl, rfl⟩))))
      (pss_one (ps_ret (pe_call (ok__law_is W) (hr.mono (by decide)) rfl W.g__law_is W.F__law_is.kp W.b__law_is .nil pass0 (pa_cons (pe_meth0 (pv 0) W.C_Space W.m_Space_collect (ok_Space_collect W) (hr.mono (by decide)) W.b_Space_collect .nil pass0 ) (pa_cons (pe_callB call_lenU (by rfl) W.n_len bb_len (pa_cons (pv 4) pa_nil)) pa_nil)))))))), ?_⟩
  refine z_start (σ := [some _, some _, some _, none, none, none]) rfl ?_
  one_sign
  have R := s.R
  have hP := s.perm
  obtain ⟨dxs, st, dx, wl, pl, pr, rt, hd, al, co, least, kvs, eX, ss⟩ := s.S
  have hOL : OL.length ≤ 29 := by rw [← hP.length_eq]; exact s.len
  refine ⟨d, wd, AO, OL, rs ++ hs, -1, rfl, R, fun o ho => Nat.le_trans (ss.sz o ((s.m o).mpr ho)) (by decide), by omega, by have := ss.rl; have := ss.hl; rw [List.length_append]; omega, fun D F H1 hD D1 ndF hF f1 => ?_⟩
  rw [blank_id fun o ho e => by have := ss.nn o ((s.m o).mpr ho); omega] at hF
  have R1 := R.keep f1
  one_sign
  refine z_lcK (td := tVar 1) (fun H' R h => ⟨_, rfl, h⟩) R1.d (fun i xs H' => xs = (((OL.map (·.num)).take i).filter fun n => decide (n ∉ F)).map V.int) (fun od HF R1 H' _ _ _ _ => rfl) (fun od HF L i kk v xs H3 fF hF3 hL hk hi hl hxs hL3 f3 => ?_) (fun ga xs H2 H3 hga hxs hl hL4 f3 f13 => ?_)
  · obtain ⟨o, a, ho, ha, rfl, rfl⟩ := dR_at hk
    have hn : (OL.map (·.num))[i]? = some o.num := by rw [List.getElem?_map, ho]; rfl
    have hxs : xs = (((OL.map (·.num)).take i).filter fun n => decide (n ∉ F)).map V.int := hxs
    subst hxs
    have nDd : D ≠ d := fun e => by rw [e, R.d] at hD; cases hD
    have D3 := f3.g0 (fF.g D1 (nin nDd))
    show gName 5 (V.int o.num) _ _ _
    leaf_len
    rw [dF_val]
    by_cases hm : o.num ∈ F
    · rw [if_pos hm]
      one_sign
      exact z_lcN hL3 f3 hl (by show _ = _; rw [take_filter_no hn (by simpa using hm)])
    · rw [if_neg hm]
      one_sign
      exact z_lcY hL hL3 f3 hl (by rw [sizeLine_eq]; rw [dR_len R.len] at hi; omega) fun H6 _ _ _ => by
        show _ = _
        rw [take_filter_yes hn (by simpa using hm), List.map_append]; rfl
  have hxs : xs = (((OL.map (·.num)).take (dR AO OL).length).filter fun n => decide (n ∉ F)).map V.int := hxs
  rw [dR_len R.len, show OL.length = (OL.map (·.num)).length by rw [List.length_map], List.take_length] at hxs
  have hxs : xs = (gone OL F).map V.int := hxs
  subst hxs
  have f03 := f1.trans f13
  have R3 := R.keep f03
  have ndG : (gone OL F).Nodup := by unfold gone; exact R.nd.sublist List.filter_sublist
  have hgl : (gone OL F).length ≤ 29 := by unfold gone; exact Nat.le_trans (List.length_filter_le _ _) (by rw [List.length_map]; exact hOL)
  have ngd : ga ≠ d := ne_of hL4 R3.d (by intro z; cases z)
  one_sign
  refine for_list (K := K) (a := ga) (xs := (gone OL F).map V.int) (fun j σ H' => ∃ v5 : Option V, σ = [some (.ref sp), some (.ref d), some (.ref wd), some (.ref D), some (.ref ga), v5] ∧ H' d = some (.dK ((dR AO OL).filter (kOut ((gone OL F).take j)))) ∧ Fr [d] H3 H')
    ⟨_, rfl, by
      rw [R3.d, List.filter_eq_self.mpr]
      intro kv _
      obtain ⟨k, v⟩ := kv
      cases k <;> simp [kOut], Fr.rfl'⟩ (fun j σ H' _ hI => ?_) (fun j x σ H4 hx hI => ?_) (fun σ H4 hI => ?_)
  · obtain ⟨_, _, _, g⟩ := hI
    exact SqL.of (g.g hL4 (nin ngd))
  · obtain ⟨v5, rfl, d4, f4⟩ := hI
    rw [List.getElem?_map] at hx
    obtain ⟨n, hn, rfl⟩ := Option.map_eq_some_iff.mp hx
    have hnm : n ∈ OL.map (·.num) := by have := List.mem_of_getElem? hn; unfold gone at this; exact (List.mem_filter.mp this).1
    obtain ⟨o, ho, hon⟩ := List.mem_map.mp hnm
    subst hon
    obtain ⟨i, hi⟩ := List.getElem?_of_mem ho
    obtain ⟨a, ha⟩ : ∃ a, AO[i]? = some a := ⟨_, List.getElem?_eq_getElem (by rw [R.len]; exact (List.getElem?_eq_some_iff.mp hi).1)⟩
    one_sign
    refine ⟨_, rfl, d, rfl, .inl ⟨_, Rd.of d4⟩, ?_⟩
    one_sign
    have hv : valV ((dR AO OL).filter (kOut ((gone OL F).take j))) (.inl o.num) = some (.ref a) := by
      refine mem_valV (((show ((dR AO OL).map (·.1)).Nodup by rw [dR_keys R.len]; exact inl_nd R.nd)).sublist (List.filter_sublist.map _)) (List.mem_filter.mpr ⟨?_, ?_⟩)
      · unfold dR
        exact List.mem_map.mpr ⟨(o, a), List.mem_of_getElem? (i := i) (List.getElem?_zip_eq_some.mpr ⟨hi, ha⟩), rfl⟩
      · show decide (o.num ∉ (gone OL F).take j) = true
        rw [decide_eq_true_eq]
        exact nd_take ndG hn
    refine ⟨_, .inl o.num, _, d4, rfl, hv, ?_⟩
    refine ⟨_, rfl, ?_, f4.trans (Fr.at (by simp))⟩
    rw [upd_same, kOut_drop, List.take_succ, hn]
    rfl
  obtain ⟨v5, rfl, d4, f4⟩ := hI
  rw [List.length_map, List.take_length] at d4
  obtain ⟨A', a1, a2, a3, a4⟩ := dR_filter R.len (fun o => decide (o.num ∈ F)) (kOut (gone OL F)) (fun o ho a => by
    show decide (o.num ∉ gone OL F) = decide (o.num ∈ F)
    refine decide_eq_decide.mpr ⟨fun h => Classical.byContradiction fun n => h ?_, fun h hm => ?_⟩
    · unfold gone; exact List.mem_filter.mpr ⟨List.mem_map.mpr ⟨o, ho, rfl⟩, by simpa using n⟩
    · unfold gone at hm
      have := (List.mem_filter.mp hm).2
      simp [h] at this)
  rw [a2] at d4
  have hdX : d ∉ X := s.out d (by simp)
  have f04 : Fr [d] H H4 := (f03.mono (by simp)).trans f4
  have ss4 := ss.keepX f04 (fun b hb => by rw [List.mem_singleton.mp hb, ← eX]; exact hdX) (fun b hb => by rw [List.mem_singleton.mp hb]; exact ⟨_, R.d, (by intro _ z; cases z), (by intro _ z; cases z), (by intro z; cases z)⟩)
  have hsp4 := ss4.S.sp
  have ga4 := f4.g hL4 (nin ngd)
  one_sign
  refine ⟨sp, dxs, st, pr, rt, hd, al, co, rs, hs, dx, wl, pl, _, _, least, O, kvs, rfl, ss4.S, ss4.T, ss4.N, ss4.G, fun o ho => Nat.le_trans (ss.sz o ho) (by decide), ss.nn, by have := s.len; omega, by have := ss.rl; omega, by have := ss.hl; omega, ss4.tab, fun F' H5 wl' pl' least' ndF' hF' S5 T5 G5 tab5 f5 hwl' hpl' => ?_⟩
  have hFF : ∀ n, n ∈ F' ↔ n ∈ F := fun n => by
    rw [hF' n, hF n]
    exact ⟨fun r => (r.pm fun o => (s.m o).mp).congr fun x hx => by rcases List.mem_append.mp hx with h | h; exact h; rw [List.mem_singleton.mp h]; simp, fun r => (r.pm fun o => (s.m o).mpr).congr fun x hx => List.mem_append_left _ hx⟩
  have ek : kept O F' = O.filter fun p => decide (p.num ∈ F') := kept_live ss.lv
  have ss5 := ss4.left S5 T5 G5 tab5 hwl'
  have gaX : ga ∉ X := s.S.someO (f1.none hga)
  have ga5 : H5 ga = some (.lst ((gone OL F).map V.int)) := f5 ga _ ga4 (fun hm => gaX (by rw [eX]; simp only [List.mem_cons, List.not_mem_nil, or_false] at hm ⊢; rcases hm with e | e | e | e <;> simp [e])) (by intro _ z; cases z)
  one_sign
  rw [List.length_map]
  refine ⟨_, _, rfl, ?_⟩
  have hpf : F'.Perm F := perm_of ndF' ndF hFF
  have hcount : (gone OL F).length + F.length = OL.length := by
    have h1 := (List.filter_append_perm (fun n => decide (n ∈ F)) (OL.map (·.num))).length_eq
    rw [List.length_append, List.length_map] at h1
    have h2 : ((OL.map (·.num)).filter fun n => decide (n ∈ F)).length = F.length := (perm_of (R.nd.sublist List.filter_sublist) ndF fun n => by
      rw [List.mem_filter]
      refine ⟨fun h => by simpa using h.2, fun h => ⟨?_, by simpa using h⟩⟩
      exact (R.live n).mp ((hF n).mp h).live).length_eq
    have h3 : ((OL.map (·.num)).filter fun n => !decide (n ∈ F)) = gone OL F := by unfold gone; exact List.filter_congr fun n _ => by simp
    rw [h3] at h1
    omega
  have hOe : (O.filter (·.live)).length = OL.length := by rw [List.filter_eq_self.mpr ss.lv, hP.length_eq]
  rw [decide_eq_true (by rw [hOe, hpf.length_eq]; omega)]
  have new : ∀ b, H4 b = none → H b = none := fun b hb => f04.noneF hb (nin fun z => by rw [z, d4] at hb; cases hb)
  have out5 : ∀ b o, H4 b = some o → b ∉ [sp, st, wl, pl] → (∀ ps, o ≠ .tbl ps) → H5 b = some o := fun b o e n t => f5 b o e n t
  have someD : d ∉ [sp, st, wl, pl] := fun hm => hdX (by rw [eX]; simp only [List.mem_cons, List.not_mem_nil, or_false] at hm ⊢; rcases hm with e | e | e | e <;> simp [e])
  have notIn : ∀ b, b ∉ X → b ∉ [sp, st, wl, pl] := fun b hb hm => hb (by rw [eX]; simp only [List.mem_cons, List.not_mem_nil, or_false] at hm ⊢; rcases hm with e | e | e | e <;> simp [e])
  have hwX : wd ∉ X := s.out wd (by simp)
  have nwd : wd ≠ d := ne_of R.wd R.d (by intro z; cases z)
  have row5 : ∀ (b : Addr) (xs : List V), b ∈ AO → H b = some (.lst xs) → H5 b = some (.lst xs) := fun b xs hb e => out5 b _ (f04.g e (nin (ne_of e R.d (by intro z; cases z)))) (notIn b (s.out b (by simp [hb]))) (by intro _ z; cases z)
  refine k H5 [sp, st, wl', pl', rt, hd] A' (kept O F') (OL.filter fun o => decide (o.num ∈ F)) ⟨⟨_, _, _, _, _, _, _, _, _, _, _, _, rfl, ss5⟩, ⟨out5 d _ d4 someD (by intro _ z; cases z), ⟨by rw [a1, List.length_map], fun i a r ha hr => ?_⟩, ?_, R.nd.sublist (List.filter_sublist.map _), fun o ho => R.lv o (List.mem_filter.mp ho).1⟩, fun o => ?_, ?_, fun b hb => ?_, s.nd.sublist a4, fun hm => s.w (a4.subset hm)⟩ (fun b hb => ?_) (fun b hb => a4.subset hb) (fun b o e n t => ?_)
  · rw [List.getElem?_map] at hr
    obtain ⟨o, ho, rfl⟩ := Option.map_eq_some_iff.mp hr
    obtain ⟨j, j1, j2⟩ := a3 i a o ha ho
    exact row5 a _ (List.mem_of_getElem? j1) (R.rows.it j a _ j1 (by rw [List.getElem?_map, j2]; rfl))
  · exact out5 wd _ (f04.g R.wd (nin nwd)) (notIn wd hwX) (by intro _ z; cases z)
  · rw [ek, List.mem_filter, List.mem_filter, s.m o, decide_eq_true_eq, decide_eq_true_eq, hFF]
  · rw [ek]; exact Nat.le_trans (List.length_filter_le _ _) s.len
  · have hb' : b ∈ d :: wd :: AO := by
      simp only [List.mem_cons] at hb ⊢
      rcases hb with e | e | e
      · exact .inl e
      · exact .inr (.inl e)
      · exact .inr (.inr (a4.subset e))
    have hbX := s.out b hb'
    have hsome : ∃ o, H4 b = some o := by
      simp only [List.mem_cons] at hb'
      rcases hb' with e | e | e
      · rw [e]; exact ⟨_, d4⟩
      · rw [e]; exact ⟨_, f04.g R.wd (nin nwd)⟩
      · obtain ⟨i, o, _, _, h⟩ := s.row e
        exact ⟨_, f04.g h (nin (ne_of h R.d (by intro z; cases z)))⟩
    obtain ⟨o, ho⟩ := hsome
    rw [eX] at hbX
    simp only [List.mem_cons, List.not_mem_nil, or_false, not_or] at hbX ⊢
    exact ⟨hbX.1, hbX.2.1, fun z => (by rw [z, hwl'] at ho; cases ho), fun z => (by rw [z, hpl'] at ho; cases ho), hbX.2.2.2.2.1, hbX.2.2.2.2.2⟩
  · rw [eX]
    simp only [List.mem_cons, List.not_mem_nil, or_false] at hb ⊢
    rcases hb with e | e | e | e | e | e <;> subst e
    · exact Or.inl (Or.inl rfl)
    · exact Or.inl (Or.inr (Or.inl rfl))
    · exact Or.inr (new _ hwl')
    · exact Or.inr (new _ hpl')
    · exact Or.inl (Or.inr (Or.inr (Or.inr (Or.inr (Or.inl rfl)))))
    · exact Or.inl (Or.inr (Or.inr (Or.inr (Or.inr (Or.inr rfl)))))
  · have n1 : b ∉ X := fun h => n (List.mem_append_left _ h)
    have n2 : b ≠ d := fun h => n (by simp [h])
    exact out5 b o (f04.g e (nin n2)) (notIn b n1) t
end

end LX
namespace LX
open PySem PySem.Spec PyProof.Rows L2 NdefX
theorem zip_at {O : List Ob} {A : List Addr} {k : Nat} {o : Ob} {a : Addr} (h1 : O[k]? = some o) (h2 : A[k]? = some a) : (O.zip A)[k]? = some (o, a) := List.getElem?_zip_eq_some.mpr ⟨h1, h2⟩
theorem num_ix {O : List Ob} (nd : (O.map (·.num)).Nodup) {i k : Nat} {a o : Ob} (h : O[i]? = some a) (hk : O[k]? = some o) (e : o.num = a.num) : k = i := by
  refine (List.getElem?_inj (l := O.map (·.num)) (by rw [List.length_map]; exact (List.getElem?_eq_some_iff.mp hk).1) nd).mp ?_
  rw [List.getElem?_map, List.getElem?_map, h, hk]
  show some o.num = some a.num
  rw [e]
theorem mem_set1 {O : List Ob} (nd : (O.map (·.num)).Nodup) {i : Nat} {a u : Ob} (h : O[i]? = some a) (o : Ob) : o ∈ O.set i u ↔ o = u ∨ (o ∈ O ∧ o.num ≠ a.num) := by
  constructor
  · intro ho
    obtain ⟨k, hk⟩ := List.getElem?_of_mem ho
    rw [set_get h] at hk
    by_cases e : k = i
    · rw [if_pos e] at hk; exact .inl (Option.some.inj hk).symm
    · rw [if_neg e] at hk; exact .inr ⟨List.mem_of_getElem? hk, fun z => e (num_ix nd h hk z)⟩
  · rintro (e | ⟨ho, hn⟩)
    · exact List.mem_of_getElem? (i := i) (by rw [set_get h, if_pos rfl, e])
    · obtain ⟨k, hk⟩ := List.getElem?_of_mem ho
      refine List.mem_of_getElem? (i := k) ?_
      rw [set_get h, if_neg, hk]
      rintro rfl
      rw [h] at hk; cases hk
      exact hn rfl
theorem mem_set2 {O : List Ob} (nd : (O.map (·.num)).Nodup) {i j : Nat} {a b u v : Ob} (h : O[i]? = some a) (h' : O[j]? = some b) (huv : a = b → u = v) (o : Ob) : o ∈ (O.set i u).set j v ↔ o = u ∨ o = v ∨ (o ∈ O ∧ o.num ≠ a.num ∧ o.num ≠ b.num) := by
  have hj : (O.set i u)[j]? = some (if j = i then u else b) := by rw [set_get h]; split <;> simp_all
  have get : ∀ k, ((O.set i u).set j v)[k]? = if k = j then some v else if k = i then some u else O[k]? := fun k => by rw [set_get hj, set_get h]
  constructor
  · intro ho
    obtain ⟨k, hk⟩ := List.getElem?_of_mem ho
    rw [get] at hk
    by_cases e : k = j
    · rw [if_pos e] at hk; exact .inr (.inl (Option.some.inj hk).symm)
    · rw [if_neg e] at hk
      by_cases e2 : k = i
      · rw [if_pos e2] at hk; exact .inl (Option.some.inj hk).symm
      · rw [if_neg e2] at hk
        exact .inr (.inr ⟨List.mem_of_getElem? hk, fun z => e2 (num_ix nd h hk z), fun z => e (num_ix nd h' hk z)⟩)
  · rintro (e | e | ⟨ho, n1, n2⟩)
    · by_cases z : i = j
      · subst z
        rw [h] at h'
        exact List.mem_of_getElem? (i := i) (by rw [get, if_pos rfl, e, huv (Option.some.inj h')])
      · exact List.mem_of_getElem? (i := i) (by rw [get, if_neg z, if_pos rfl, e])
    · exact List.mem_of_getElem? (i := j) (by rw [get, if_pos rfl, e])
    · obtain ⟨k, hk⟩ := List.getElem?_of_mem ho
      refine List.mem_of_getElem? (i := k) ?_
      rw [get, if_neg, if_neg, hk]
      · rintro rfl; rw [h] at hk; cases hk; exact n1 rfl
      · rintro rfl; rw [h'] at hk; cases hk; exact n2 rfl
theorem dR_setA {A : List Addr} {O : List Ob} (hl : A.length = O.length) (nd : (O.map (·.num)).Nodup) {i : Nat} {o : Ob} {y : Addr} (ho : O[i]? = some o) : putK (dR A O) (.inl o.num) (.ref y) = dR (A.set i y) O := by
  have hi := (List.getElem?_eq_some_iff.mp ho).1
  have ha : ((dR A O).any fun kv => decide (kv.1 = Sum.inl o.num)) = true := List.any_eq_true.mpr ⟨(.inl o.num, .ref (A[i]'(by omega))), by
    unfold dR
    exact List.mem_map.mpr ⟨(o, A[i]'(by omega)), List.mem_of_getElem? (i := i) (List.getElem?_zip_eq_some.mpr ⟨ho, List.getElem?_eq_getElem (by omega)⟩), rfl⟩, by simp⟩
  unfold putK
  rw [if_pos ha]
  refine List.ext_getElem? fun k => ?_
  unfold dR
  rw [List.getElem?_map, List.getElem?_map, List.getElem?_map]
  cases hk : O[k]? with
  | none =>
    have : (O.zip A)[k]? = none := List.getElem?_eq_none_iff.mpr (by rw [List.length_zip]; have := List.getElem?_eq_none_iff.mp hk; omega)
    rw [this]
    have : (O.zip (A.set i y))[k]? = none := List.getElem?_eq_none_iff.mpr (by rw [List.length_zip]; have := List.getElem?_eq_none_iff.mp hk; omega)
    rw [this]; rfl
  | some p =>
    have hkl := (List.getElem?_eq_some_iff.mp hk).1
    obtain ⟨a, hA⟩ : ∃ a, A[k]? = some a := ⟨_, List.getElem?_eq_getElem (by omega)⟩
    rw [zip_at hk hA]
    by_cases e : k = i
    · subst e
      rw [ho] at hk; cases hk
      rw [zip_at ho (show (A.set k y)[k]? = some y by rw [List.getElem?_set_self (by omega)])]
      simp
    · rw [zip_at hk (show (A.set i y)[k]? = some a by rw [List.getElem?_set_ne (Ne.symm e)]; exact hA)]
      have : p.num ≠ o.num := fun z => e (num_ix nd ho hk z)
      simp [this]
theorem dR_nums {A : List Addr} {O O' : List Ob} (h : O.map (·.num) = O'.map (·.num)) : dR A O = dR A O' := by
  unfold dR
  refine List.ext_getElem? fun k => ?_
  rw [List.getElem?_map, List.getElem?_map]
  have e := congrArg (fun l => l[k]?) h
  simp only [List.getElem?_map] at e
  cases hA : A[k]? with
  | none =>
    have h1 := List.getElem?_eq_none_iff.mp hA
    rw [List.getElem?_eq_none_iff.mpr (by rw [List.length_zip]; omega), List.getElem?_eq_none_iff.mpr (by rw [List.length_zip]; omega)]
  | some a =>
    cases h1 : O[k]? with
    | none =>
      rw [h1] at e
      cases h2 : O'[k]? with
      | none =>
        have l1 := List.getElem?_eq_none_iff.mp h1
        have l2 := List.getElem?_eq_none_iff.mp h2
        rw [List.getElem?_eq_none_iff.mpr (by rw [List.length_zip]; omega), List.getElem?_eq_none_iff.mpr (by rw [List.length_zip]; omega)]
      | some q => rw [h2] at e; cases e
    | some p =>
      rw [h1] at e
      cases h2 : O'[k]? with
      | none => rw [h2] at e; cases e
      | some q =>
        rw [h2] at e
        rw [zip_at h1 hA, zip_at h2 hA]
        have e : p.num = q.num := Option.some.inj e
        show some (Sum.inl p.num, V.ref a) = some (Sum.inl q.num, V.ref a)
        rw [e]
theorem set_nums {O : List Ob} {i : Nat} {o u : Ob} (h : O[i]? = some o) (e : u.num = o.num) : (O.set i u).map (·.num) = O.map (·.num) := by
  refine List.ext_getElem? fun k => ?_
  rw [List.getElem?_map, List.getElem?_map, set_get h]
  by_cases z : k = i
  · subst z; rw [if_pos rfl, h]; show some u.num = some o.num; rw [e]
  · rw [if_neg z]
/-- rows put in other places -/
theorem RwL.put {H : Hp} {A : List Addr} {O : List Ob} (L : RwL H A (O.map rowOf)) {i : Nat} {y : Addr} {u : Ob} (hi : i < O.length) (h : H y = some (.lst ((rowOf u).map V.int))) : RwL H (A.set i y) ((O.set i u).map rowOf) := by
  have hl := L.len
  rw [List.length_map] at hl
  refine ⟨by rw [List.length_set, List.length_map, List.length_set, hl], fun k a r ha hr => ?_⟩
  rw [List.getElem?_map] at hr
  obtain ⟨o, ho, rfl⟩ := Option.map_eq_some_iff.mp hr
  by_cases e : k = i
  · subst e
    rw [List.getElem?_set_self (by omega)] at ha ho
    cases ha; cases ho
    exact h
  · rw [List.getElem?_set_ne (Ne.symm e)] at ha ho
    exact L.it k a _ ha (by rw [List.getElem?_map, ho]; rfl)
/-- the rows behind a change of one -/
theorem RwL.change {H H' : Hp} {A : List Addr} {O : List Ob} (L : RwL H A (O.map rowOf)) (nd : A.Nodup) {i : Nat} {a : Addr} {u : Ob} (ha : A[i]? = some a) (f : Fr [a] H H') (h : H' a = some (.lst ((rowOf u).map V.int))) : RwL H' A ((O.set i u).map rowOf) := by
  have hl := L.len
  rw [List.length_map] at hl
  refine ⟨by rw [List.length_map, List.length_set, hl], fun k b r hb hr => ?_⟩
  rw [List.getElem?_map] at hr
  obtain ⟨o, ho, rfl⟩ := Option.map_eq_some_iff.mp hr
  by_cases e : k = i
  · subst e
    rw [ha] at hb; cases hb
    have := (List.getElem?_eq_some_iff.mp ha).1
    rw [List.getElem?_set_self (by omega)] at ho
    cases ho
    exact h
  · rw [List.getElem?_set_ne (Ne.symm e)] at ho
    refine f.g (L.it k b _ hb (by rw [List.getElem?_map, ho]; rfl)) (nin fun z => e ?_)
    subst z
    exact (List.getElem?_inj (List.getElem?_eq_some_iff.mp hb).1 nd).mp (hb.trans ha.symm)
theorem SS.swap {C CS PT : Addr} {H H' : Hp} {sp dxs st dx wl pl pr rt hd : Addr} {al co least : Int} {O : List Ob} {kvs kvs' : List (Key × V)} {rs hs : List Int} (s : SS C CS PT H sp dxs st dx wl pl pr rt hd al co least O kvs rs hs) {i j : Nat} {a b : Ob} (ha : O[i]? = some a) (hb : O[j]? = some b)
    (T' : StoreAt H' C st dx wl pl 100000 100000 least (flat (swapO O i j a b)) kvs') (hk : kvs' = putK (putK kvs (.inl a.num) (.int (off O j : Nat))) (.inl b.num) (.int (off O i : Nat))) (f : Fr [wl, pl] H H') : SS C CS PT H' sp dxs st dx wl pl pr rt hd al co least (swapO O i j a b) kvs' rs hs := by
  have ma := List.mem_of_getElem? ha
  have mb := List.mem_of_getElem? hb
  have g := fun (x : Ob) (hx : x ∈ swapO O i j a b) => (mem_set2 s.nd ha hb (u := { a with num := b.num }) (v := { b with num := a.num }) (fun e => by rw [e]) x).mp hx
  have n1 := s.N
  have p1 := ne_of s.S.sp s.T.wl (by intro z; cases z)
  have p2 := ne_of s.S.sp s.T.pl (by intro z; cases z)
  have p3 := ne_of s.S.pr s.T.pl (by intro z; cases z)
  have p4 := ne_of s.S.rt s.T.pl (by intro z; cases z)
  have p5 := ne_of s.S.hd s.T.pl (by intro z; cases z)
  refine ⟨s.S.keep f fun c hc hm => ?_, T', s.N, by rw [hk]; exact s.G.swap ha hb (s.lv a ma) (s.lv b mb), fun x hx => ?_, fun x hx => ?_, fun x hx => ?_, by unfold swapO; rw [List.length_set, List.length_set]; exact s.len, by rw [← swap_flat ha hb, List.length_set, List.length_set]; exact s.fln, s.rl, s.hl, tab_out s.tab f fun c hc => ?_⟩
  · simp only [List.mem_cons, List.not_mem_nil, or_false] at hc hm
    rcases hc with e | e | e | e <;> rcases hm with h | h <;> (subst e; first | exact p1 h | exact p2 h | exact n1.p h | exact p3 h | exact n1.r h | exact p4 h | exact n1.h h | exact p5 h)
  · rcases g x hx with e | e | ⟨e, _⟩
    · rw [e]; exact s.sz a ma
    · rw [e]; exact s.sz b mb
    · exact s.sz x e
  · rcases g x hx with e | e | ⟨e, _⟩
    · rw [e]; exact s.nn b mb
    · rw [e]; exact s.nn a ma
    · exact s.nn x e
  · rcases g x hx with e | e | ⟨e, _⟩
    · rw [e]; exact s.lv a ma
    · rw [e]; exact s.lv b mb
    · exact s.lv x e
  · simp only [List.mem_cons, List.not_mem_nil, or_false] at hc
    rcases hc with e | e <;> subst e
    · exact ⟨_, s.T.wl, (by intro ps z; cases z), (by intro ps z; cases z)⟩
    · exact ⟨_, s.T.pl, (by intro ps z; cases z), (by intro ps z; cases z)⟩

end LX
namespace LX
open PySem PySem.Spec PyProof.Rows L2 NdefX
set_option hygiene false in
local macro_rules | `(tactic| k_memK) => `(tactic| first | exact W.na_Store_room | exact W.na_Store_entries | exact W.na_Store_words | exact W.na_Store__places | exact W.na_Store__least | exact W.na_Space_store | exact W.na_Space_pressure | exact W.na_Space_always | exact W.na_Space_allocations | exact W.na_Space_collections | exact W.na_Space__roots | exact W.na_Space__held | exact W.na_Space__saved)
set_option hygiene false in
local macro_rules | `(tactic| k_ownIn) => `(tactic| first | exact W.C_Store | exact W.C_Space)
local macro_rules | `(tactic| none_booked) => `(tactic| first | assumption | (refine Fr.g0 (by assumption) ?_; none_booked))
local macro_rules | `(tactic| one_sign) => `(tactic| repeat (first
  | refine Stp.h ?_
  | ((with_reducible refine' z_fld1 ?k0 ?k1 ?k2 ?k3 ?_); (case k0 => none_booked); (case k1 => k_ownIn); (case k2 => k_memK); (case k3 => rfl))
  | ((with_reducible refine' z_meth1 ?k0 ?k1 ?_); (case k0 => none_booked); (case k1 => rfl))
  | ((with_reducible refine' z_bmL ?k0 ?_); (case k0 => none_booked))
  | ((with_reducible refine' z_lenL ?k0 ?_); (case k0 => none_booked))
  | ((with_reducible refine' z_lenT ?k0 ?_); (case k0 => none_booked))
  | ((with_reducible refine' z_lenD ?k0 ?_); (case k0 => none_booked))
  | ((with_reducible refine' z_truL ?k0 ?_); (case k0 => none_booked))
  | ((with_reducible refine' z_truD ?k0 ?_); (case k0 => none_booked))
  | ((with_reducible refine' z_truT ?k0 ?_); (case k0 => none_booked))
  | ((with_reducible refine' z_inDIP ?k0 ?_); (case k0 => none_booked))
  | ((with_reducible refine' z_inDIN ?k0 ?_); (case k0 => none_booked))
  | ((with_reducible refine' z_inDfP ?k0 ?_); (case k0 => none_booked))
  | ((with_reducible refine' z_inDfN ?k0 ?_); (case k0 => none_booked))
  | ((with_reducible refine' z_iList1 ?k0 ?_); (case k0 => none_booked))
  | ((with_reducible refine' z_isi0 ?k0 ?k1 ?k2 ?_); (case k0 => exact (ClsV.ty _)); (case k1 => exact (TyX.base (TyOf.lst (by none_booked)))); (case k2 => first | exact kt_list_int | exact kt_list_bool | exact kt_list_str | exact kt_list_list | exact kt_list_tuple | exact kt_list_dict))
  | ((with_reducible refine' z_rI ?k0 ?_); (case k0 => first | exact (by decide : (0 : Int) < _) | exact ⟨by decide, by decide⟩ | exact ⟨by decide, by decide, by decide⟩ | (show (0 : Int) < _; omega)))
  | ((with_reducible refine' z_mulI ?k0 ?_); (case k0 => first | exact Or.inr ⟨by decide, by decide⟩ | exact Or.inl ⟨by decide, by decide⟩ | exact Or.inl ⟨by omega, by omega⟩ | exact Or.inr ⟨by omega, by omega⟩))))
local macro_rules | `(tactic| leaf_len) => `(tactic| (simp only [wipe, List.map_cons, List.map_nil, List.set_cons_zero, List.set_cons_succ]; one_sign; refine z_ok rfl ?_; one_sign))
theorem nd_swap {A : List Addr} (nd : A.Nodup) {i j : Nat} {a b : Addr} (ha : A[i]? = some a) (hb : A[j]? = some b) : ((A.set i b).set j a).Nodup := by
  have hi := (List.getElem?_eq_some_iff.mp ha).1
  have hj := (List.getElem?_eq_some_iff.mp hb).1
  have get : ∀ k, k < A.length → ((A.set i b).set j a)[k]? = A[if k = j then i else if k = i then j else k]? := fun k hk => by
    rw [List.getElem?_set]
    by_cases e : j = k
    · subst e
      rw [if_pos rfl, if_pos (by rw [List.length_set]; exact hj), if_pos rfl, ha]
    · rw [if_neg e, if_neg (Ne.symm e), List.getElem?_set]
      by_cases e2 : i = k
      · subst e2
        rw [if_pos rfl, if_pos hi, if_pos rfl, hb]
      · rw [if_neg e2, if_neg (Ne.symm e2)]
  refine List.pairwise_iff_getElem.mpr fun p q hp hq l e => ?_
  rw [List.length_set, List.length_set] at hp hq
  have h1 := get p hp
  have h2 := get q hq
  rw [List.getElem?_eq_getElem (by rw [List.length_set, List.length_set]; exact hp)] at h1
  rw [List.getElem?_eq_getElem (by rw [List.length_set, List.length_set]; exact hq)] at h2
  rw [e, h2] at h1
  have h3 := (List.getElem?_inj (by split <;> (try split) <;> omega) nd).mp h1
  split at h3 <;> split at h3 <;> (try split at h3) <;> (try split at h3) <;> omega
section
variable {P : Program} {w : World} {K : PySem.W.Frag} {mg : Str → Option Value} {base : Heap}
def sp_lchg (C CS PT : Addr) : Sp := fun vs H Q _ => ∃ sp d wd X AO O OL rs hs, ∃ m x : Int, vs = [.ref sp, .ref d, .ref wd, .int m, .int x] ∧ 0 ≤ m ∧ m ≤ 100000 ∧ Stt C CS PT H sp d wd X AO O OL rs hs ∧
  ∀ H' X' AO' O' OL' rs', Stt C CS PT H' sp d wd X' AO' O' OL' rs' hs → (∀ b ∈ X', b ∈ X ∨ H b = none) → (∀ b ∈ AO', b ∈ AO) → FrN (X ++ d :: wd :: AO) H H' → Q (.bl true) H'
theorem Stt.keep {C CS PT : Addr} {H H' : Hp} {sp d wd : Addr} {X AO : List Addr} {O OL : List Ob} {rs hs : List Int} (s : Stt C CS PT H sp d wd X AO O OL rs hs) (f : Fr [] H H') : Stt C CS PT H' sp d wd X AO O OL rs hs := ⟨s.S.keep f, s.R.keep f, s.m, s.len, s.out, s.nd, s.w⟩
/-- the place of a number among both -/
theorem Stt.at {C CS PT : Addr} {H : Hp} {sp d wd : Addr} {X AO : List Addr} {O OL : List Ob} {rs hs : List Int} (s : Stt C CS PT H sp d wd X AO O OL rs hs) {k : Nat} (h : k < OL.length) : ∃ (o : Ob) (a : Addr) (i : Nat), OL[k]? = some o ∧ AO[k]? = some a ∧ O[i]? = some o ∧ valV (dR AO OL) (.inl o.num) = some (.ref a) ∧ H a = some (.lst ((rowOf o).map V.int)) ∧ o.live = true := by
  obtain ⟨o, ho⟩ : ∃ o, OL[k]? = some o := ⟨_, List.getElem?_eq_getElem h⟩
  obtain ⟨a, ha⟩ : ∃ a, AO[k]? = some a := ⟨_, List.getElem?_eq_getElem (by rw [s.R.len]; exact h)⟩
  obtain ⟨i, hi⟩ := List.getElem?_of_mem ((s.m o).mpr (List.mem_of_getElem? ho))
  exact ⟨o, a, i, ho, ha, hi, dR_val s.R.len s.R.nd ho ha, s.R.rows.it k a _ ha (by rw [List.getElem?_map, ho]; rfl), s.R.lv o (List.mem_of_getElem? ho)⟩
theorem ok__law_changed (W : WT P K mg base) : FnOk P w K mg base CX0 8 W.f__law_changed W.fd__law_changed ["_law_space_here", "_law_rows_here", "_law_words", "_law_many", "_law_x"] (sp_lchg W.c_Store W.c_Space W.PT_Store_close_up) := by
  refine W.F__law_changed.ok sc__law_changed (fun vs H Q E h => by obtain ⟨sp, d, wd, X, AO, O, OL, rs, hs, m, x, rfl, hm0, hm1, s, k⟩ := h; rfl) (fun cdv A outer s H vs Q E hr h => ?_)
  obtain ⟨sp, d, wd, X, AO, O, OL, rs, hs, m, x, rfl, hm0, hm1, s, k⟩ := h
  have hu1 := hu_of hr
  have hu64 := hu64_of hr
  refine ⟨_, (pss_cons (ps_lock (ps_setLc (i := 5) (own := [("_law_number_here", 6)]) (g := gName 6) (tt := tYes) rfl sc__law_changed.nd rfl rfl (sw_true rfl rfl rfl (by decide +kernel)) (pi_keys (pv 1)) (blkOk_by (N := N__law_changed) (sc := defScope s__law_changed) (by first | decide +kernel | rfl)) (fun _ _ _ _ _ => (pg_name (i := 6) sc__law_changed.nd rfl (by first | exact Or.inl rfl | exact Or.inr rfl))) (fun _ _ _ _ _ => pts_nil) (fun _ _ _ _ _ => (pv 6))))
      (pss_cons (ps_set (i := 7) sc__law_changed.nd rfl (by first | exact Or.inl rfl | exact Or.inr rfl) (pe_op op_mod (pe_callTy call_intU (by rfl) W.n_int bb_int (pa_cons (pv 4) pa_nil)) pe_int))
      (pss_cons (ps_set (i := 8) sc__law_changed.nd rfl (by first | exact Or.inl rfl | exact Or.inr rfl) (pe_op op_mod (pe_op op_fdivW (pv 4) pe_int) pe_int))
      (pss_cons (ps_set (i := 9) sc__law_changed.nd rfl (by first | exact Or.inl rfl | exact Or.inr rfl) (pe_call (ok__law_word W) (hr.mono (by decide)) rfl W.g__law_word W.F__law_word.kp W.b__law_word .nil pass0 (pa_cons (pe_op op_fdivW (pv 4) pe_int) (pa_cons (pv 3) pa_nil))))
      (pss_cons (ps_if (pt_cmpR (op_eqU hu64) (pv 7) pe_int (by first | exact nomark _ | rfl)) (pss_one (ps_ret (pe_call (ok__law_collected W) (hr.mono (by decide)) rfl W.g__law_collected W.F__law_collected.kp W.b__law_collected .nil pass0 (pa_cons (pv 0) (pa_cons (pv 1) (pa_cons (pv 2) pa_nil)))))) pss_nil)
      (pss_cons (ps_if (pt_cmpR op_gtU (pv 7) pe_int (by first | exact nomark _ | rfl)) (pss_cons (ps_asg (pv 9) (pg_sub (pv 2) (pv 8) set_list))
      (pss_cons (ps_expr (pe_meth (pv 0) W.C_Space W.m_Space_set_root (ok_Space_set_root W) (hr.mono (by decide)) W.b_Space_set_root .nil pass0 (pa_cons (pv 8) (pa_cons (pv 9) pa_nil))))
      (pss_one (ps_ret pe_bl)))) pss_nil)
      (pss_cons (ps_if (pt_not (pt_truth (pv 5) (by intro _; rfl))) (pss_one (ps_ret pe_bl)) pss_nil)
      (pss_cons (ps_set (i := 10) sc__law_changed.nd rfl (by first | exact Or.inl rfl | exact Or.inr rfl) (pe_ix (ix_U hu1) (pv 5) (pe_op op_mod (pe_op op_fdivW (pv 4) pe_int) (pe_callB call_lenU (by rfl) W.n_len bb_len (pa_cons (pv 5) pa_nil))) (fun _ _ => rfl)))
      (pss_cons (ps_set (i := 11) sc__law_changed.nd rfl (by first | exact Or.inl rfl | exact Or.inr rfl) (pe_ix (ix_U hu1) (pv 5) (pe_op op_mod (pe_op op_fdivW (pv 4) pe_int) (pe_callB call_lenU (by rfl) W.n_len bb_len (pa_cons (pv 5) pa_nil))) (fun _ _ => rfl)))
      (pss_cons (ps_if (pt_cmpR op_ltU (pv 7) pe_int (by first | exact nomark _ | rfl)) (pss_cons (ps_expr (pe_meth (pe_fld (pv 0) rfl) W.C_Store W.m_Store_exchange (ok_Store_exchange W) (hr.mono (by decide)) W.b_Store_exchange .nil pass0 (pa_cons (pv 10) (pa_cons (pv 11) pa_nil))))
      (pss_cons (ps_set (i := 12) sc__law_changed.nd rfl (by first | exact Or.inl rfl | exact Or.inr rfl) (pe_ix (ix_U hu1) (pv 1) (pv 10) (fun _ _ => rfl)))
      (pss_cons (ps_dput hu1 (pv 1) (pv 10) (pe_ix (ix_U hu1) (pv 1) (pv 11) (fun _ _ => rfl)) rfl)
      (pss_one (ps_dput hu1 (pv 1) (pv 11) (pv 12) rfl))))) (pss_one (ps_if (PW.pt (pw_and (pt_cmpR op_ltU (pv 7) pe_int (by first | exact nomark _ | rfl)) (pw_and1 (pt_cmpR op_gtU (pe_callB call_lenU (by rfl) W.n_len bb_len (pa_cons (pe_ix (ix_U hu1) (pv 1) (pv 10) (fun _ _ => rfl)) pa_nil)) pe_int (by first | exact nomark _ | rfl))))) (pss_cons (ps_set (i := 13) sc__law_changed.nd rfl (by first | exact Or.inl rfl | exact Or.inr rfl) (pe_op op_mod (pe_op op_fdivW (pv 4) pe_int) (pe_op op_sub (pe_callB call_lenU (by rfl) W.n_len bb_len (pa_cons (pe_ix (ix_U hu1) (pv 1) (pv 10) (fun _ _ => rfl)) pa_nil)) pe_int)))
      (pss_cons (ps_asg (pv 9) (pg_sub (pe_ix (ix_U hu1) (pv 1) (pv 10) (fun _ _ => rfl)) (pe_op op_addU pe_int (pv 13)) set_list))
      (pss_one (ps_expr (pe_meth (pe_fld (pv 0) rfl) W.C_Store W.m_Store_put (ok_Store_put W) (hr.mono (by decide)) W.b_Store_put .nil pass0 (pa_cons (pv 10) (pa_cons (pv 13) (pa_cons (pv 9) pa_nil)))))))) (pss_cons (ps_asg (pv 9) (pg_sub (pe_ix (ix_U hu1) (pv 1) (pv 10) (fun _ _ => rfl)) pe_int set_list))
      (pss_one (ps_expr (pe_meth (pe_fld (pv 0) rfl) W.C_Store W.m_Store_set_kind (ok_Store_set_kind W) (hr.mono (by decide)) W.b_Store_set_kind .nil pass0 (pa_cons (pv 10) (pa_cons (pv 9) pa_nil)))))))))
      (pss_one (ps_ret pe_bl)))))))))))), ?_⟩
  refine z_start (σ := [some _, some _, some _, some _, some _, none, none, none, none, none, none, none, none, none]) rfl ?_
  one_sign
  have hOL : OL.length ≤ 29 := by rw [← s.perm.length_eq]; exact s.len
  refine z_lcK (td := tVar 1) (fun H' R h => ⟨_, rfl, h⟩) s.R.d (fun i xs H' => xs = ((OL.map (·.num)).take i).map V.int) (fun od HF R1 H' _ _ _ _ => rfl) (fun od HF L i kk v xs H3 fF hF3 hL hk hi hl hxs hL3 f3 => ?_) (fun na xs H2 H1 hna hxs hl hL4 f3 f1 => ?_)
  · obtain ⟨o, a, ho, ha, rfl, rfl⟩ := dR_at hk
    have hxs : xs = ((OL.map (·.num)).take i).map V.int := hxs
    subst hxs
    show gName 6 (V.int o.num) _ _ _
    leaf_len
    exact z_lcY hL hL3 f3 hl (by rw [sizeLine_eq]; rw [dR_len s.R.len] at hi; omega) fun H6 _ _ _ => by
      show _ = _
      rw [List.take_succ, List.getElem?_map, ho, List.map_append]; rfl
  have hxs : xs = ((OL.map (·.num)).take (dR AO OL).length).map V.int := hxs
  rw [dR_len s.R.len, show OL.length = (OL.map (·.num)).length by rw [List.length_map], List.take_length] at hxs
  subst hxs
  have s1 := s.keep f1
  clear f3
  one_sign
  refine ⟨_, _, rfl, hm0, hm1, fun wv H2 f2 => ?_⟩
  have s2 := s1.keep f2
  have f02 := f1.trans f2
  have na2 := f2.g0 hL4
  have S2 := s2.S
  have R2 := s2.R
  clear s1 hL4
  one_sign
  refine iteD (fun h8 => ?_) (fun h8 => ?_)
  · one_sign
    refine ⟨sp, d, wd, X, AO, O, OL, rs, hs, rfl, s2, fun H' X' AO' O' OL' s' hX hA f => ?_⟩
    one_sign
    exact k H' X' AO' O' OL' rs s' (fun b hb => (hX b hb).imp id fun e => f02.none e) hA (fun b o e n t => f b o (f02.g0 e) n t)
  have h8 : ¬ x % 9 = 8 := h8
  have e9 := Int.emod_nonneg x (by decide : (9 : Int) ≠ 0)
  have e9' := Int.emod_lt_of_pos x (by decide : (0 : Int) < 9)
  have wdX : wd ∉ X := s2.out wd (by simp)
  have dX : d ∉ X := s2.out d (by simp)
  have nwd : wd ≠ d := ne_of R2.wd R2.d (by intro z; cases z)
  have rows2 : ∀ a ∈ AO, ∃ o : Ob, H2 a = some (.lst ((rowOf o).map V.int)) := fun a ha => by
    obtain ⟨_, o, _, _, h⟩ := s2.row ha
    exact ⟨o, h⟩
  have dA : d ∉ AO := fun h => by
    obtain ⟨o, e⟩ := rows2 d h
    rw [R2.d] at e; cases e
  obtain ⟨dxs, st, dx, wl, pl, pr, rt, hd, al, co, least, kvs, eX, ss⟩ := S2
  have hrl := ss.rl
  one_sign
  refine iteD (fun h5 => ?_) (fun h5 => ?_)
  · -- a root
    have p0 := Int.emod_nonneg (x / 9) (by decide : (16 : Int) ≠ 0)
    have p1 := Int.emod_lt_of_pos (x / 9) (by decide : (0 : Int) < 16)
    obtain ⟨pp, hpp, hp16⟩ : ∃ pp : Nat, x / 9 % 16 = (pp : Int) ∧ pp < 16 := ⟨(x / 9 % 16).toNat, by omega, by omega⟩
    one_sign
    refine z_setL R2.wd (j := pp) (by show ixN _ (x / 9 % 16) = _; rw [hpp]; exact ixN_nat (by rw [List.length_map, List.length_append]; omega)) fun H3 f3 w3 n3 => ?_
    rw [set_int, List.set_append_left _ _ (by omega)] at w3
    have ss3 := ss.keepX f3 (fun b hb => by rw [List.mem_singleton.mp hb, ← eX]; exact wdX) (fun b hb => by rw [List.mem_singleton.mp hb]; exact ⟨_, R2.wd, (by intro _ z; cases z), (by intro _ z; cases z), fun z => by
      have z := congrArg List.length (HO.lst.inj z)
      rw [List.length_map, List.length_append] at z
      simp only [List.length_nil] at z
      omega⟩)
    have hsp3 := ss3.S.sp
    one_sign
    refine ⟨sp, dxs, st, pr, rt, hd, al, co, rs, hs, pp, wv, by show [_, V.int (x / 9 % 16), _] = _; rw [hpp], ss3.S, by omega, ?_⟩
    have f4 : Fr [rt] H3 (upd H3 rt (.lst ((rs.set pp wv).map V.int))) := Fr.at (by simp)
    have ss4 := ss3.root (rs' := rs.set pp wv) (by rw [List.length_set]) f4 upd_same
    generalize upd H3 rt (.lst ((rs.set pp wv).map V.int)) = H4 at f4 ss4
    one_sign
    have rtX : rt ∈ X := by rw [eX]; simp
    have nrt : ∀ b, b ∉ X → b ∉ [rt] := fun b hb h => hb (by rw [List.mem_singleton.mp h]; exact rtX)
    refine k H4 X AO O OL (rs.set pp wv) ⟨⟨_, _, _, _, _, _, _, _, _, _, _, _, eX, ss4⟩, ⟨f4.g (f3.g R2.d (nin nwd.symm)) (nrt d dX), (R2.rows.keep f3 fun a ha => nin fun z => s2.w (z ▸ ha)).keep f4 fun a ha => nrt a (s2.out a (by simp [ha])), f4.g w3 (nrt wd wdX), R2.nd, R2.lv⟩, s2.m, s2.len, s2.out, s2.nd, s2.w⟩ (fun b hb => .inl hb) (fun b hb => hb) (fun b o e n t => ?_)
    have n1 : b ∉ X := fun h => n (List.mem_append_left _ h)
    have n2 : b ≠ wd := fun h => n (by simp [h])
    exact f4.g (f3.g (f02.g0 e) (nin n2)) (nrt b n1)
  have h5 : ¬ (5 : Int) < x % 9 := h5
  one_sign
  by_cases hemp : OL = []
  · subst hemp
    one_sign
    exact k H2 X AO O [] rs s2 (fun b hb => .inl hb) (fun b hb => hb) (f02.mono (by simp)).n
  have hO0 : 0 < OL.length := List.length_pos_iff.mpr hemp
  rw [show (((OL.map (·.num)).map V.int).isEmpty) = false by cases OL with | nil => exact absurd rfl hemp | cons => rfl]
  show (if (!(!false)) = true then _ else _)
  refine iteF ?_
  have na2' : H2 na = some (.lst ((OL.map (·.num)).map V.int)) := na2
  have hl2 : ((OL.map (·.num)).map V.int).length = OL.length := by rw [List.length_map, List.length_map]
  have pick : ∀ y : Int, ∃ k : Nat, y % (((OL.map (·.num)).map V.int).length : Int) = (k : Int) ∧ k < OL.length := fun y => by
    rw [hl2]
    have h1 := Int.emod_nonneg y (show (OL.length : Int) ≠ 0 by omega)
    have h2 := Int.emod_lt_of_pos y (show (0 : Int) < (OL.length : Int) by omega)
    exact ⟨(y % (OL.length : Int)).toNat, by omega, by omega⟩
  have hl3 : (0 : Int) < (((OL.map (·.num)).map V.int).length : Int) := by rw [hl2]; omega
  obtain ⟨k1, hk1, hk1l⟩ := pick (x / 9)
  obtain ⟨k2, hk2, hk2l⟩ := pick (x / 576)
  obtain ⟨a, aa, i, oa, ga, sa, va, ra, la⟩ := s2.at hk1l
  obtain ⟨b, ba, j, ob, gb, sb, vb, rb, lb⟩ := s2.at hk2l
  have gn : ∀ {k : Nat} {o : Ob}, OL[k]? = some o → (OL.map (·.num))[k]? = some o.num := fun h => by rw [List.getElem?_map, h]; rfl
  one_sign
  refine z_ixL na2' (by show atI _ (x / 9 % _) = _; rw [hk1]; exact atI_nat (int_at (gn oa))) ?_
  one_sign
  refine z_ixL na2' (by show atI _ (x / 576 % _) = _; rw [hk2]; exact atI_nat (int_at (gn ob))) ?_
  have hst := ss.T.st
  have hsp := ss.S.sp
  have hao : aa ∈ AO := List.mem_of_getElem? ga
  have hbo : ba ∈ AO := List.mem_of_getElem? gb
  have aX : aa ∉ X := s2.out aa (by simp [hao])
  have wlX : wl ∈ X := by rw [eX]; simp
  have plX : pl ∈ X := by rw [eX]; simp
  one_sign
  refine iteD (fun h2 => ?_) (fun h2 => ?_)
  · -- exchange
    one_sign
    have hfl : (flat O).length ≤ 5000 := ss.fln
    have hofa := off_lt sa
    have hofb := off_lt sb
    refine ⟨st, dx, wl, pl, _, _, least, _, kvs, a.num, b.num, off O i, off O j, rfl, ss.T, ss.G.at sa la, ss.G.at sb lb, by omega, by omega, by have := ss.flen; rw [sizeLine_eq]; omega, fun H3 T3 g3 => ?_⟩
    have f3 : Fr [wl, pl] H2 H3 := fun c o e n => by
      simp only [List.mem_cons, List.not_mem_nil, or_false, not_or] at n
      rw [g3 c n.1 n.2]; exact e
    rw [swap_flat sa sb] at T3
    have ss3 := ss.swap sa sb T3 rfl f3
    have nX3 : ∀ c, c ∉ X → c ∉ [wl, pl] := fun c hc h => hc (by
      simp only [List.mem_cons, List.not_mem_nil, or_false] at h
      rcases h with e | e
      · rw [e]; exact wlX
      · rw [e]; exact plX)
    have d3 := f3.g R2.d (nX3 d dX)
    one_sign
    refine z_ixD d3 va ?_
    one_sign
    refine z_ixD d3 vb ?_
    one_sign
    refine z_dputI d3 (by rw [dR_len R2.len, sizeLine_eq]; omega) fun H4 f4 d4 n4 => ?_
    rw [dR_setA R2.len R2.nd oa] at d4
    one_sign
    refine z_dputI d4 (by rw [dR_len (by rw [List.length_set]; exact R2.len), sizeLine_eq]; omega) fun H5 f5 d5 n5 => ?_
    rw [dR_setA (by rw [List.length_set]; exact R2.len) R2.nd ob] at d5
    one_sign
    have f45 := f4.trans f5
    have hu : (OL.set k1 { b with num := a.num })[k2]? = some (if k2 = k1 then { b with num := a.num } else b) := by
      rw [set_get oa]
      by_cases e : k2 = k1
      · rw [if_pos e, if_pos e]
      · rw [if_neg e, if_neg e]; exact ob
    have enum : ((OL.set k1 { b with num := a.num }).set k2 { a with num := b.num }).map (·.num) = OL.map (·.num) := by
      refine (set_nums (u := { a with num := b.num }) hu ?_).trans (set_nums (u := { b with num := a.num }) oa rfl)
      by_cases h : k2 = k1
      · rw [if_pos h]
        subst h
        rw [oa] at ob; cases ob; rfl
      · rw [if_neg h]
    rw [dR_nums enum.symm] at d5
    have row3 : ∀ c ∈ AO, ∀ o, H2 c = some o → H5 c = some o := fun c hc o e => f45.g (f3.g e (nX3 c (s2.out c (by simp [hc])))) (nin fun z => dA (z ▸ hc))
    have mo : ∀ o, o ∈ swapO O i j a b ↔ o ∈ (OL.set k1 { b with num := a.num }).set k2 { a with num := b.num } := fun o => by
      have e1 := mem_set2 ss.nd sa sb (u := { a with num := b.num }) (v := { b with num := a.num }) (fun e => by rw [e]) o
      have e2 := mem_set2 R2.nd oa ob (u := { b with num := a.num }) (v := { a with num := b.num }) (fun e => by rw [e]) o
      refine e1.trans (Iff.trans ?_ e2.symm)
      rw [s2.m o]
      constructor
      · rintro (h | h | h)
        · exact .inr (.inl h)
        · exact .inl h
        · exact .inr (.inr h)
      · rintro (h | h | h)
        · exact .inr (.inl h)
        · exact .inl h
        · exact .inr (.inr h)
    have LR : RwL H5 AO (OL.map rowOf) := ⟨R2.rows.len, fun q c r hc hr => row3 c (List.mem_of_getElem? hc) _ (R2.rows.it q c r hc hr)⟩
    have LR2 := (LR.put (u := { b with num := a.num }) hk1l (row3 ba hbo _ rb)).put (i := k2) (u := { a with num := b.num }) (by rw [List.length_set]; exact hk2l) (row3 aa hao _ ra)
    have memA : ∀ c ∈ (AO.set k1 ba).set k2 aa, c ∈ AO := fun c hc => by
      rcases List.mem_or_eq_of_mem_set hc with h | h
      · rcases List.mem_or_eq_of_mem_set h with h | h
        · exact h
        · rw [h]; exact hbo
      · rw [h]; exact hao
    have ndA : ((AO.set k1 ba).set k2 aa).Nodup := nd_swap s2.nd ga gb
    refine k H5 X ((AO.set k1 ba).set k2 aa) (swapO O i j a b) ((OL.set k1 { b with num := a.num }).set k2 { a with num := b.num }) rs ⟨⟨_, _, _, _, _, _, _, _, _, _, _, _, eX, ss3.keepX f45 (fun c hc => by rw [List.mem_singleton.mp hc, ← eX]; exact dX) (fun c hc => by rw [List.mem_singleton.mp hc]; exact ⟨_, d3, (by intro _ z; cases z), (by intro _ z; cases z), (by intro z; cases z)⟩)⟩,
      ⟨d5, LR2, f45.g (f3.g R2.wd (nX3 wd wdX)) (nin nwd), by rw [enum]; exact R2.nd, fun o ho => ?_⟩, mo, by unfold swapO; rw [List.length_set, List.length_set]; exact s2.len, fun c hc => s2.out c ?_, ndA, fun h => s2.w (memA _ h)⟩ (fun c hc => .inl hc) memA (fun c o e n t => ?_)
    · rcases List.mem_or_eq_of_mem_set ho with h | h
      · rcases List.mem_or_eq_of_mem_set h with h | h
        · exact R2.lv o h
        · rw [h]; exact lb
      · rw [h]; exact la
    · simp only [List.mem_cons] at hc ⊢
      rcases hc with e | e | e
      · exact .inl e
      · exact .inr (.inl e)
      · exact .inr (.inr (memA c e))
    · have n1 : c ∉ X := fun h => n (List.mem_append_left _ h)
      have n2 : c ≠ d := fun h => n (by simp [h])
      exact f45.g (f3.g (f02.g0 e) (nX3 c n1)) (nin n2)
  have fin : ∀ (u : Ob) (H3 H4 : Hp), u.num = a.num → u.live = a.live → u.sl.length = a.sl.length → Fr [aa] H2 H3 → H3 aa = some (.lst ((rowOf u).map V.int)) → Fr [wl] H3 H4 → H4 wl = some (.lst ((flat (O.set i u)).map V.int)) → Q (.bl true) H4 := fun u H3 H4 e1 e2 e3 f3 h3 f4 h4 => by
    have ss3 := ss.keepX f3 (fun c hc => by rw [List.mem_singleton.mp hc, ← eX]; exact aX) (fun c hc => by rw [List.mem_singleton.mp hc]; exact ⟨_, ra, (by intro _ z; cases z), (by intro _ z; cases z), (by intro z; cases z)⟩)
    have ss4 := ss3.change sa e1 e2 e3 f4 h4
    have nwl : ∀ c, c ∉ X → c ∉ [wl] := fun c hc h => hc (by rw [List.mem_singleton.mp h]; exact wlX)
    have dna : d ≠ aa := fun z => dA (z ▸ hao)
    have wna : wd ≠ aa := fun z => s2.w (z ▸ hao)
    have L4 := (R2.rows.change s2.nd ga f3 h3).keep f4 fun c hc => nwl c (s2.out c (by simp [hc]))
    have nums := set_nums (u := u) oa e1
    refine k H4 X AO (O.set i u) (OL.set k1 u) rs ⟨⟨_, _, _, _, _, _, _, _, _, _, _, _, eX, ss4⟩, ⟨by rw [dR_nums nums]; exact f4.g (f3.g R2.d (nin dna)) (nwl d dX), L4, f4.g (f3.g R2.wd (nin wna)) (nwl wd wdX), by rw [nums]; exact R2.nd, fun o ho => ?_⟩, fun o => ?_, by rw [List.length_set]; exact s2.len, s2.out, s2.nd, s2.w⟩ (fun c hc => .inl hc) (fun c hc => hc) (fun c o e n t => ?_)
    · rcases List.mem_or_eq_of_mem_set ho with h | h
      · exact R2.lv o h
      · rw [h, e2]; exact la
    · rw [mem_set1 ss.nd sa, mem_set1 R2.nd oa, s2.m o]
    · have n1 : c ∉ X := fun h => n (List.mem_append_left _ h)
      have n2 : c ≠ aa := fun h => n (by simp [h, hao])
      exact f4.g (f3.g (f02.g0 e) (nin n2)) (nwl c n1)
  have kindCase : ∀ H3, Fr [aa] H2 H3 → H3 aa = some (.lst (((rowOf a).set 0 wv).map V.int)) → Q (.bl true) (upd H3 wl (.lst ((((flat O).set (off O i + 2) wv)).map V.int))) := fun H3 f3 h3 => by
    rw [set_kind wv sa]
    exact fin { a with kind := wv } H3 _ rfl rfl rfl f3 h3 (Fr.at (by simp)) upd_same
  have doKind : ∀ H3, Fr [aa] H2 H3 → H3 aa = some (.lst (((rowOf a).set 0 wv).map V.int)) → StoreAt H3 W.c_Store st dx wl pl 100000 100000 least (flat O) kvs ∧ SpaceAt H3 W.c_Space sp dxs st pr rt hd al co rs hs := fun H3 f3 h3 => by
    have ss3 := ss.keepX f3 (fun c hc => by rw [List.mem_singleton.mp hc, ← eX]; exact aX) (fun c hc => by rw [List.mem_singleton.mp hc]; exact ⟨_, ra, (by intro _ z; cases z), (by intro _ z; cases z), (by intro z; cases z)⟩)
    exact ⟨ss3.T, ss3.S⟩
  have hlr : (((rowOf a).map V.int).length : Int) = (a.sl.length : Int) + 1 := by rw [List.length_map]; show ((a.sl.length + 1 : Nat) : Int) = _; omega
  have hofa := off_lt sa
  have R2d := R2.d
  one_sign
  refine iteD (fun h3 => ?_) (fun h3 => ?_)
  · one_sign
    refine z_ixD R2d va ?_
    one_sign
    refine iteD (fun h4 => ?_) (fun h4 => ?_)
    · have h4 : (1 : Int) < (((rowOf a).map V.int).length : Int) := h4
      have hl4 : (0 : Int) < (((rowOf a).map V.int).length : Int) - 1 := by omega
      have q0 := Int.emod_nonneg (x / 576) (show (((rowOf a).map V.int).length : Int) - 1 ≠ 0 by omega)
      have q1 := Int.emod_lt_of_pos (x / 576) hl4
      obtain ⟨at', hat, hatl⟩ : ∃ at' : Nat, x / 576 % ((((rowOf a).map V.int).length : Int) - 1) = (at' : Int) ∧ at' < a.sl.length := ⟨(x / 576 % ((((rowOf a).map V.int).length : Int) - 1)).toNat, by omega, by omega⟩
      one_sign
      refine z_ixD R2d va ?_
      one_sign
      refine z_ixD R2d va ?_
      one_sign
      refine z_setL ra (j := at' + 1) (by show ixN _ (1 + x / 576 % _) = _; rw [hat, show (1 : Int) + (at' : Int) = ((at' + 1 : Nat) : Int) by omega]; exact ixN_nat (by rw [List.length_map]; show at' + 1 < a.sl.length + 1; omega)) fun H3 f3 h3 n3 => ?_
      rw [set_int] at h3
      have h3 : H3 aa = some (.lst ((rowOf { a with sl := a.sl.set at' wv }).map V.int)) := h3
      have ss3 := ss.keepX f3 (fun c hc => by rw [List.mem_singleton.mp hc, ← eX]; exact aX) (fun c hc => by rw [List.mem_singleton.mp hc]; exact ⟨_, ra, (by intro _ z; cases z), (by intro _ z; cases z), (by intro z; cases z)⟩)
      have hst3 := ss3.T.st
      have hsp3 := ss3.S.sp
      one_sign
      refine ⟨st, dx, wl, pl, _, _, least, _, kvs, a.num, off O i, at', wv, by show [_, _, V.int (x / 576 % _), _] = _; rw [hat], ss3.T, ss.G.at sa la, by omega, ?_⟩
      rw [set_slot wv sa hatl]
      one_sign
      exact fin { a with sl := a.sl.set at' wv } H3 _ rfl rfl (by show (a.sl.set at' wv).length = _; rw [List.length_set]) f3 h3 (Fr.at (by simp)) upd_same
    · one_sign
      refine z_ixD R2d va ?_
      one_sign
      refine z_setL ra (ixN_nat (i := 0) (by rw [List.length_map]; exact Nat.succ_pos _)) fun H3 f3 h3 n3 => ?_
      rw [set_int] at h3
      obtain ⟨T3, S3⟩ := doKind H3 f3 h3
      have hst3 := T3.st
      have hsp3 := S3.sp
      one_sign
      refine ⟨st, dx, wl, pl, _, _, least, _, kvs, a.num, off O i, wv, rfl, T3, ss.G.at sa la, by omega, ?_⟩
      one_sign
      exact kindCase H3 f3 h3
  · one_sign
    refine z_ixD R2d va ?_
    one_sign
    refine z_setL ra (ixN_nat (i := 0) (by rw [List.length_map]; exact Nat.succ_pos _)) fun H3 f3 h3 n3 => ?_
    rw [set_int] at h3
    obtain ⟨T3, S3⟩ := doKind H3 f3 h3
    have hst3 := T3.st
    have hsp3 := S3.sp
    one_sign
    refine ⟨st, dx, wl, pl, _, _, least, _, kvs, a.num, off O i, wv, rfl, T3, ss.G.at sa la, by omega, ?_⟩
    one_sign
    exact kindCase H3 f3 h3
end

end LX
namespace LX
open PySem PySem.Spec PyProof.Rows L2 NdefX
set_option hygiene false in
local macro_rules | `(tactic| k_memK) => `(tactic| first | exact W.na_Store_room | exact W.na_Store_entries | exact W.na_Store_words | exact W.na_Store__places | exact W.na_Store__least | exact W.na_Space_store | exact W.na_Space_pressure | exact W.na_Space_always | exact W.na_Space_allocations | exact W.na_Space_collections | exact W.na_Space__roots | exact W.na_Space__held | exact W.na_Space__saved)
set_option hygiene false in
local macro_rules | `(tactic| k_ownIn) => `(tactic| first | exact W.C_Store | exact W.C_Space)
local macro_rules | `(tactic| none_booked) => `(tactic| first | assumption | (refine Fr.g0 (by assumption) ?_; none_booked))
local macro_rules | `(tactic| one_sign) => `(tactic| repeat (first
  | refine Stp.h ?_
  | ((with_reducible refine' z_fld1 ?k0 ?k1 ?k2 ?k3 ?_); (case k0 => none_booked); (case k1 => k_ownIn); (case k2 => k_memK); (case k3 => rfl))
  | ((with_reducible refine' z_meth1 ?k0 ?k1 ?_); (case k0 => none_booked); (case k1 => rfl))
  | ((with_reducible refine' z_bmL ?k0 ?_); (case k0 => none_booked))
  | ((with_reducible refine' z_lenL ?k0 ?_); (case k0 => none_booked))
  | ((with_reducible refine' z_lenT ?k0 ?_); (case k0 => none_booked))
  | ((with_reducible refine' z_lenD ?k0 ?_); (case k0 => none_booked))
  | ((with_reducible refine' z_truL ?k0 ?_); (case k0 => none_booked))
  | ((with_reducible refine' z_truD ?k0 ?_); (case k0 => none_booked))
  | ((with_reducible refine' z_truT ?k0 ?_); (case k0 => none_booked))
  | ((with_reducible refine' z_inDIP ?k0 ?_); (case k0 => none_booked))
  | ((with_reducible refine' z_inDIN ?k0 ?_); (case k0 => none_booked))
  | ((with_reducible refine' z_inDfP ?k0 ?_); (case k0 => none_booked))
  | ((with_reducible refine' z_inDfN ?k0 ?_); (case k0 => none_booked))
  | ((with_reducible refine' z_iList1 ?k0 ?_); (case k0 => none_booked))
  | ((with_reducible refine' z_isi0 ?k0 ?k1 ?k2 ?_); (case k0 => exact (ClsV.ty _)); (case k1 => exact (TyX.base (TyOf.lst (by none_booked)))); (case k2 => first | exact kt_list_int | exact kt_list_bool | exact kt_list_str | exact kt_list_list | exact kt_list_tuple | exact kt_list_dict))
  | ((with_reducible refine' z_rI ?k0 ?_); (case k0 => first | exact (by decide : (0 : Int) < _) | exact ⟨by decide, by decide⟩ | exact ⟨by decide, by decide, by decide⟩ | (show (0 : Int) < _; omega)))
  | ((with_reducible refine' z_mulI ?k0 ?_); (case k0 => first | exact Or.inr ⟨by decide, by decide⟩ | exact Or.inl ⟨by decide, by decide⟩ | exact Or.inl ⟨by omega, by omega⟩ | exact Or.inr ⟨by omega, by omega⟩))))
local macro_rules | `(tactic| leaf_len) => `(tactic| (simp only [wipe, List.map_cons, List.map_nil, List.set_cons_zero, List.set_cons_succ]; one_sign; refine z_ok rfl ?_; one_sign))
section
variable {P : Program} {w : World} {K : PySem.W.Frag} {mg : Str → Option Value} {base : Heap}
def sp_lkept (C CS PT : Addr) : Sp := fun vs H Q _ => ∃ sp d wd X AO O OL rs hs, vs = [.ref sp, .ref d, .ref wd] ∧ Stt C CS PT H sp d wd X AO O OL rs hs ∧ ∀ H', Fr [] H H' → Q (.bl true) H'
theorem ok__law_kept (W : WT P K mg base) : FnOk P w K mg base CX0 3 W.f__law_kept W.fd__law_kept ["_law_space_here", "_law_rows_here", "_law_words"] (sp_lkept W.c_Store W.c_Space W.PT_Store_close_up) := by
  refine W.F__law_kept.ok sc__law_kept (fun vs H Q E h => by obtain ⟨sp, d, wd, X, AO, O, OL, rs, hs, rfl, s, k⟩ := h; rfl) (fun cdv A outer s H vs Q E hr h => ?_)
  obtain ⟨sp, d, wd, X, AO, O, OL, rs, hs, rfl, s, k⟩ := h
  have hu1 := hu_of hr
  have hu64 := hu64_of hr
  refine ⟨_, (pss_cons (ps_lock (ps_for PassesOwn.never rfl (pi_keys (pv 1)) (pg_name (i := 3) sc__law_kept.nd rfl (by first | exact Or.inl rfl | exact Or.inr rfl)) (pss_one (ps_if (PW.pt (pw_or (pt_cmpR (op_neU hu64) (pe_meth (pe_fld (pv 0) rfl) W.C_Store W.m_Store_kind (ok_Store_kind W) (hr.mono (by decide)) W.b_Store_kind .nil pass0 (pa_cons (pv 3) pa_nil)) (pe_ix (ix_U hu1) (pe_ix (ix_U hu1) (pv 1) (pv 3) (fun _ _ => rfl)) pe_int (fun _ _ => rfl)) (by first | exact nomark _ | rfl)) (pw_or1 (pt_not (pt_truth (pe_call (ok__law_same W) (hr.mono (by decide)) rfl W.g__law_same W.F__law_same.kp W.b__law_same .nil pass0 (pa_cons (pe_meth (pe_fld (pv 0) rfl) W.C_Store W.m_Store_slots (ok_Store_slots W) (hr.mono (by decide)) W.b_Store_slots .nil pass0 (pa_cons (pv 3) pa_nil)) (pa_cons (pe_slice sl_U (pe_ix (ix_U hu1) (pv 1) (pv 3) (fun _ _ => rfl)) (po_some pe_int) po_none) pa_nil))) (by intro _; rfl)))))) (pss_one (ps_ret pe_bl)) pss_nil))))
      (pss_one (ps_ret (pe_and (pe_call (ok__law_same W) (hr.mono (by decide)) rfl W.g__law_same W.F__law_same.kp W.b__law_same .nil pass0 (pa_cons (pe_meth0 (pe_fld (pv 0) rfl) W.C_Store W.m_Store_numbers (ok_Store_numbers W) (hr.mono (by decide)) W.b_Store_numbers .nil pass0 ) (pa_cons (pe_callB (call_sortedU rfl) (by rfl) W.n_sorted bb_sorted (pa_cons (pe_lock (pe_lc (own := [("_law_k", 3)]) (g := gName 3) (tt := tYes) rfl sc__law_kept.nd (pi_keys (pv 1)) (blkOk_by (N := N__law_kept) (sc := defScope s__law_kept) (by first | decide +kernel | rfl)) (fun _ _ _ _ _ => (pg_name (i := 3) sc__law_kept.nd rfl (by first | exact Or.inl rfl | exact Or.inr rfl))) (fun _ _ _ _ _ => pts_nil) (fun _ _ _ _ _ => (pv 3)))) pa_nil)) pa_nil))) (pe_one (pe_call (ok__law_same W) (hr.mono (by decide)) rfl W.g__law_same W.F__law_same.kp W.b__law_same .nil pass0 (pa_cons (pe_meth0 (pv 0) W.C_Space W.m_Space_all_roots (ok_Space_all_roots W) (hr.mono (by decide)) W.b_Space_all_roots .nil pass0 ) (pa_cons (pe_op op_addU (pe_lst (pa_cons pe_int pa_nil)) (pv 2)) pa_nil)))))))), ?_⟩
  refine z_start (σ := [some _, some _, some _, none]) rfl ?_
  one_sign
  have R := s.R
  have hOL : OL.length ≤ 29 := by rw [← s.perm.length_eq]; exact s.len
  have hP := s.perm
  obtain ⟨dxs, st, dx, wl, pl, pr, rt, hd, al, co, least, kvs, eX, ss⟩ := s.S
  have hdX : d ∉ X := s.out d (by simp)
  refine z_forK (td := tVar 1) [] (by simp) (fun H' R h => ⟨_, rfl, h⟩) R.d (fun i σ H' => ∃ v3, σ = [some (.ref sp), some (.ref d), some (.ref wd), v3]) (fun od HF L => ⟨_, rfl⟩) (fun od HF i kk v σ H5 L hk hi hI f5 hd5 => ?_) (fun σ H5 H6 hI f6 d6 f06 => ?_)
  · obtain ⟨v3, rfl⟩ := hI
    obtain ⟨o, a, ho, ha, rfl, rfl⟩ := dR_at hk
    obtain ⟨j, hj⟩ := List.getElem?_of_mem ((s.m o).mpr (List.mem_of_getElem? ho))
    have fdx : Fr [d] H H5 := L.f.trans (f5.mono (by simp))
    have s5 := ss.keepX fdx (fun c hc => by rw [List.mem_singleton.mp hc, ← eX]; exact hdX) (fun c hc => by rw [List.mem_singleton.mp hc]; exact ⟨_, R.d, (by intro _ z; cases z), (by intro _ z; cases z), (by intro z; cases z)⟩)
    have hsp5 := s5.S.sp
    have hst5 := s5.T.st
    have a4 := R.rows.it i a _ ha (by rw [List.getElem?_map, ho]; rfl)
    have a5 := fdx.g a4 (nin (ne_of a4 R.d (by intro z; cases z)))
    have hlo := R.lv o (List.mem_of_getElem? ho)
    have so := ss.sz o (List.mem_of_getElem? hj)
    show gName 3 (V.int o.num) _ _ _
    one_sign
    refine ⟨st, dx, wl, pl, _, _, least, _, kvs, o.num, off O j, o.kind, rfl, s5.T, ss.G.at hj hlo, flat_kind hj, ?_⟩
    one_sign
    refine z_ixDf hd5 (dR_val R.len R.nd ho ha) ?_
    one_sign
    refine z_ixL a5 (atI_nat (j := 0) rfl) ?_
    one_sign
    rw [decide_eq_true rfl]
    one_sign
    have hlt := off_lt hj
    refine ⟨st, dx, wl, pl, _, _, least, _, kvs, o.num, off O j, o.sl.length, rfl, s5.T, ss.G.at hj hlo, flat_size hj, by omega, fun q3 hq3 => ?_⟩
    rw [flat_slots hj]
    have f6 : Fr [] H5 (upd H5 q3 (.lst (o.sl.map V.int))) := Fr.new hq3
    have q6 : upd H5 q3 (.lst (o.sl.map V.int)) q3 = some (.lst (o.sl.map V.int)) := upd_same
    generalize upd H5 q3 (.lst (o.sl.map V.int)) = H6 at f6 q6
    have d6 := f6.g0 hd5
    one_sign
    refine z_ixDf d6 (dR_val R.len R.nd ho ha) ?_
    one_sign
    refine z_slL (f6.g0 a5) fun q4 H7 hq4 f7 q7 => ?_
    have e7 : cutV ((rowOf o).map V.int) (some 1) none = o.sl.map V.int := by
      unfold cutV
      rw [List.length_map]
      have h1 : HT.sIx (rowOf o).length 0 (some 1) = 1 := by
        have := HT.sIx_nat (rowOf o).length 0 1
        rw [show ((1 : Nat) : Int) = 1 from rfl] at this
        rw [this]
        show min 1 (o.sl.length + 1) = 1
        omega
      have h2 : HT.sIx (rowOf o).length (rowOf o).length none = o.sl.length + 1 := rfl
      rw [h1, h2]
      show ((o.sl.map V.int).take (o.sl.length + 1 - 1)) = _
      rw [List.take_of_length_le (by rw [List.length_map]; omega)]
    rw [e7] at q7
    one_sign
    refine ⟨q3, q4, o.sl, rfl, f7.g0 q6, q7, by omega, ?_⟩
    one_sign
    exact ⟨⟨_, rfl⟩, (f5.trans f6).trans f7⟩
  · obtain ⟨v3, rfl⟩ := hI
    have ss6 := ss.keep f06
    have R6 := R.keep f06
    have hsp6 := ss6.S.sp
    have hst6 := ss6.T.st
    one_sign
    obtain ⟨ms, m1, m2⟩ := ss.numsP
    refine ⟨st, dx, wl, pl, _, _, least, _, kvs, ms, rfl, ss6.T, m1, fun ns q pm ps hq => ?_⟩
    have f7 : Fr [] H6 (upd H6 q (.lst (ns.map V.int))) := Fr.new hq
    have q7 : upd H6 q (.lst (ns.map V.int)) q = some (.lst (ns.map V.int)) := upd_same
    generalize upd H6 q (.lst (ns.map V.int)) = H7 at f7 q7
    have R7 := R6.keep f7
    one_sign
    refine z_lcK (td := tVar 1) (fun H' R h => ⟨_, rfl, h⟩) R7.d (fun i xs H' => xs = ((OL.map (·.num)).take i).map V.int) (fun od HF R1 H' _ _ _ _ => rfl) (fun od HF L i kk v xs H2 fF hF hL hk hi hl hxs hL2 f2 => ?_) (fun L xs H2 H3 hL hxs hl hL3 f3 f73 => ?_)
    · obtain ⟨o, a, ho, ha, rfl, rfl⟩ := dR_at hk
      have hxs : xs = ((OL.map (·.num)).take i).map V.int := hxs
      subst hxs
      show gName 3 (V.int o.num) _ _ _
      leaf_len
      exact z_lcY hL hL2 f2 hl (by rw [sizeLine_eq]; rw [dR_len R.len] at hi; omega) fun H5 _ _ _ => by
        show _ = _
        rw [List.take_succ, List.getElem?_map, ho, List.map_append]
        rfl
    have hxs : xs = ((OL.map (·.num)).take (dR AO OL).length).map V.int := hxs
    rw [dR_len R.len, show OL.length = (OL.map (·.num)).length by rw [List.length_map], List.take_length] at hxs
    subst hxs
    one_sign
    refine z_sortedL hL3 fun ns2 q2 H4 pm2 ps2 hq2 f4 e4 => ?_
    have en : ns2 = ns := sorted_eq (pm2.trans ((hP.map (·.num)).symm.trans (m2.symm.trans pm.symm))) ps2 ps
    subst en
    have nl : ns2.length = OL.length := by rw [pm2.length_eq, List.length_map]
    one_sign
    refine ⟨q, q2, ns2, rfl, f4.g0 (f73.g0 q7), e4, by omega, ?_⟩
    have f64 := (f7.trans f73).trans f4
    have ss4 := ss6.keep f64
    have hsp4 := ss4.S.sp
    have hwd4 := f64.g0 R6.wd
    one_sign
    refine ⟨sp, dxs, st, pr, rt, hd, al, co, rs, hs, rfl, ss4.S, by have := ss.rl; omega, by have := ss.hl; omega, fun l H8 hl8 hl0 f8 => ?_⟩
    one_sign
    refine z_newL (by show 1 ≤ sizeLine; decide) fun q9 H9 hq9 f9 e9 => ?_
    one_sign
    refine z_addL e9 (f9.g0 (f8.g0 hwd4)) (by rw [List.length_map, List.length_append, sizeLine_eq]; have := ss.rl; have := ss.hl; show 1 + (rs.length + hs.length) ≤ _; omega) fun q10 H10 hq10 f10 e10 => ?_
    one_sign
    refine ⟨l, q10, 0 :: (rs ++ hs), rfl, f10.g0 (f9.g0 hl8), e10, by rw [List.length_cons, List.length_append]; have := ss.rl; have := ss.hl; omega, ?_⟩
    exact k H10 (((f06.trans f64).trans f8).trans (f9.trans f10))
end

end LX
namespace LX
open PySem PySem.Spec PyProof.Rows L2 NdefX
/-! the chain -/
def chB (z : Bool) (k : Nat) : Ob := { num := (k : Int), kind := 1, sl := if k = 0 then [] else [if z then 0 else 2 * ((k : Int) - 1)], live := true }
def chO (n : Nat) : List Ob := (List.range n).map (chB false)
def chR (n : Nat) : List Int := (List.replicate 16 0).set 5 (2 * ((n : Int) - 1))
theorem chO_at {n k : Nat} (h : k < n) : (chO n)[k]? = some (chB false k) := by unfold chO; rw [List.getElem?_map, List.getElem?_range h]; rfl
theorem chO_get {n i : Nat} {o : Ob} (h : (chO n)[i]? = some o) : i < n ∧ o = chB false i := by
  have hi := (List.getElem?_eq_some_iff.mp h).1
  unfold chO at hi
  rw [List.length_map, List.length_range] at hi
  rw [chO_at hi] at h
  exact ⟨hi, (Option.some.inj h).symm⟩
theorem chO_len (n : Nat) : (chO n).length = n := by unfold chO; rw [List.length_map, List.length_range]
theorem chO_succ (n : Nat) : chO (n + 1) = chO n ++ [chB false n] := by unfold chO; rw [List.range_succ, List.map_append]; rfl
theorem ch_live {n : Nat} {x : Int} : Live (chO n) x ↔ 0 ≤ x ∧ x < n := by
  constructor
  · rintro ⟨i, o, h1, h2, h3⟩
    obtain ⟨hi, rfl⟩ := chO_get h1
    have : (i : Int) = x := h3
    omega
  · rintro ⟨h0, h1⟩
    exact ⟨x.toNat, _, chO_at (by omega), rfl, by show ((x.toNat : Nat) : Int) = x; omega⟩
theorem chR_mem {n : Nat} {w : Int} (h : w ∈ 0 :: (chR n ++ [])) : w = 0 ∨ w = 2 * ((n : Int) - 1) := by
  rw [List.append_nil] at h
  rcases List.mem_cons.mp h with e | h
  · exact .inl e
  · unfold chR at h
    rcases List.mem_or_eq_of_mem_set h with h | h
    · exact .inl (List.mem_replicate.mp h).2
    · exact .inr h
theorem chR_in (n : Nat) : 2 * ((n : Int) - 1) ∈ 0 :: (chR n ++ []) := by
  rw [List.append_nil]
  unfold chR
  exact List.mem_cons_of_mem _ (List.mem_of_getElem? (i := 5) (by rw [List.getElem?_set_self (by simp)]))
/-- from above d all is reached, without what stands behind d -/
theorem ch_down {n : Nat} {d : Int} : ∀ (t k : Nat), k + t + 1 = n → d ≤ (k : Int) → Reach (blank d (chO n)) (0 :: (chR n ++ [])) (k : Int)
  | 0, k, h, hd => by
    have e : (k : Int) = (2 * ((n : Int) - 1)) / 2 := by omega
    rw [e]
    exact .root (chR_in n) (by omega) ((blank_live _).mpr (ch_live.mpr (by omega)))
  | t + 1, k, h, hd => by
    have ih := ch_down (n := n) (d := d) t (k + 1) (by omega) (by omega)
    have e : (k : Int) = (2 * (((k + 1 : Nat) : Int) - 1)) / 2 := by omega
    have hv : Live (blank d (chO n)) ((2 * (((k + 1 : Nat) : Int) - 1)) / 2) := (blank_live _).mpr (ch_live.mpr ⟨by omega, by omega⟩)
    rw [e]
    refine ih.mstep (o := chB false (k + 1)) (blank_of (List.mem_of_getElem? (chO_at (n := n) (k := k + 1) (by omega))) (by show ((k + 1 : Nat) : Int) ≠ d; omega)) rfl rfl ?_ (by omega) hv
    show _ ∈ 1 :: (chB false (k + 1)).sl
    unfold chB
    rw [if_neg (Nat.succ_ne_zero k)]
    simp
theorem ch_zero {n : Nat} {d : Int} (h : 0 < n) : Reach (blank d (chO n)) (0 :: (chR n ++ [])) 0 := .root (w := 0) List.mem_cons_self (by decide) ((blank_live _).mpr (ch_live.mpr (by omega)))
theorem ch_up {n : Nat} {d x : Int} (hn : 0 < n) (hd : d < n) (h : Reach (blank d (chO n)) (0 :: (chR n ++ [])) x) : x = 0 ∨ d ≤ x := by
  induction h with
  | @root w h1 h2 h3 =>
    rcases chR_mem h1 with e | e
    · subst e; exact .inl rfl
    · subst e; exact .inr (by omega)
  | @step m w i o h1 h2 h3 h4 h5 h6 h7 ih =>
    obtain ⟨hnd, ho⟩ := blank_get h2 h5 h6
    obtain ⟨hi, rfl⟩ := chO_get ho
    have h4 : (i : Int) = m := h4
    have hnd : (i : Int) ≠ d := hnd
    rcases List.mem_cons.mp h5 with e | e
    · have e : w = 1 := e
      omega
    · by_cases z : i = 0
      · subst z
        exact absurd e (by unfold chB; rw [if_pos rfl]; simp)
      · have e : w ∈ (chB false i).sl := e
        unfold chB at e
        rw [if_neg z] at e
        have e : w = 2 * ((i : Int) - 1) := by simpa using e
        rcases ih with h | h
        · omega
        · exact .inr (by omega)
theorem ch_reach {n : Nat} (hn : 0 < n) {x : Int} : Reach (chO n) (0 :: (chR n ++ [])) x ↔ 0 ≤ x ∧ x < n := by
  constructor
  · intro h; exact ch_live.mp h.live
  · rintro ⟨h0, h1⟩
    have := (ch_down (n := n) (d := 0) (n - 1 - x.toNat) x.toNat (by omega) (by omega)).blank_le
    rwa [show ((x.toNat : Nat) : Int) = x by omega] at this
theorem ch_dm {n : Nat} (hn : 0 < n) {d x : Int} (hd : d < n) (hx0 : 0 ≤ x) (hxn : x < n) : Dm (chO n) (0 :: (chR n ++ [])) d x ↔ x ≠ 0 ∧ x < d := by
  constructor
  · intro h
    refine ⟨fun e => h (by rw [e]; exact ch_zero hn), ?_⟩
    refine Classical.byContradiction fun z => h ?_
    have := ch_down (n := n) (d := d) (n - 1 - x.toNat) x.toNat (by omega) (by omega)
    rwa [show ((x.toNat : Nat) : Int) = x by omega] at this
  · rintro ⟨h1, h2⟩ r
    rcases ch_up hn hd r with e | e
    · exact h1 e
    · omega
section
variable {n : Nat} {F : List Int} {ow : Int → Option Int}
theorem ch_own (hn : 0 < n) (hF : ∀ x, x ∈ F ↔ 0 ≤ x ∧ x < n) (df : Dfor F (Dm (chO n) (0 :: (chR n ++ []))) ow) {k : Nat} (hk : k < n) : ow k = if 0 < k ∧ k + 1 < n then some ((k : Int) + 1) else none := by
  have hkF : (k : Int) ∈ F := (hF _).mpr (by omega)
  cases e : ow k with
  | none =>
    by_cases h : 0 < k ∧ k + 1 < n
    · exact absurd ((ch_dm hn (d := (k : Int) + 1) (by omega) (by omega) (by omega)).mpr ⟨by omega, by omega⟩) (df.ownN _ hkF e _ ((hF _).mpr (by omega)))
    · rw [if_neg h]
  | some y =>
    obtain ⟨hy, hd, al⟩ := df.ownS _ hkF y e
    have hyr := (hF y).mp hy
    obtain ⟨h1, h2⟩ := (ch_dm hn hyr.2 (by omega) (by omega)).mp hd
    have hlt : k + 1 < n := by omega
    rw [if_pos ⟨by omega, hlt⟩]
    rcases al ((k : Int) + 1) ((hF _).mpr (by omega)) ((ch_dm hn (by omega) (by omega) (by omega)).mpr ⟨by omega, by omega⟩) with h | h
    · rw [h]
    · obtain ⟨_, h4⟩ := (ch_dm hn (by omega) hyr.1 hyr.2).mp h
      omega
theorem ch_nd (n : Nat) : ((chO n).map (·.num)).Nodup := by
  unfold chO
  rw [List.map_map]
  exact List.Pairwise.map _ (fun a b hab e => hab (by have e : (a : Int) = (b : Int) := e; omega)) List.nodup_range
theorem ch_sz {k : Nat} (hk : k < n) : szf (chO n) k = if k = 0 then 3 else 4 := by
  have := szf_of (ch_nd n) (List.mem_of_getElem? (chO_at hk)) rfl
  have e : szf (chO n) (k : Int) = 3 + ((chB false k).sl.length : Int) := this
  rw [e]
  unfold chB
  by_cases z : k = 0
  · rw [if_pos z, if_pos z]; rfl
  · rw [if_neg z, if_neg z]; rfl
def nums (n : Nat) : List Int := (List.range n).map fun k : Nat => (k : Int)
theorem nums_mem {x : Int} : x ∈ nums n ↔ 0 ≤ x ∧ x < n := by
  unfold nums
  rw [List.mem_map]
  constructor
  · rintro ⟨k, hk, rfl⟩
    have := List.mem_range.mp hk
    omega
  · intro h
    exact ⟨x.toNat, List.mem_range.mpr (by omega), by omega⟩
theorem nums_nd (n : Nat) : (nums n).Nodup := List.Pairwise.map _ (fun a b hab e => hab (by have e : (a : Int) = (b : Int) := e; omega)) List.nodup_range
theorem nums_succ (m : Nat) : nums (m + 1) = nums m ++ [(m : Int)] := by unfold nums; rw [List.range_succ, List.map_append]; rfl
theorem Sm_app {sz : Int → Int} {p : Int → Prop} (a b : List Int) : Sm sz (a ++ b) p = Sm sz a p + Sm sz b p := by
  induction a with
  | nil => show Sm sz b p = 0 + _; omega
  | cons x a ih => rw [List.cons_append, Sm.cons, Sm.cons, ih]; omega
theorem ch_sum {k : Nat} (hk : k < n) (h0 : 0 < k) : ∀ m, m ≤ n → Sm (szf (chO n)) (nums m) (fun y => y ≠ 0 ∧ y ≤ k) = 4 * ((m.min (k + 1) - 1 : Nat) : Int)
  | 0, _ => rfl
  | m + 1, hm => by
    rw [nums_succ, Sm_app, ch_sum hk h0 m (by omega), Sm.cons, show Sm (szf (chO n)) [] (fun y => y ≠ 0 ∧ y ≤ (k : Int)) = 0 from rfl]
    by_cases c : (m : Int) ≠ 0 ∧ (m : Int) ≤ k
    · rw [if_pos c, ch_sz (by omega), if_neg (by omega)]
      have e1 : m.min (k + 1) = m := Nat.min_eq_left (by omega)
      have e2 : (m + 1).min (k + 1) = m + 1 := Nat.min_eq_left (by omega)
      rw [e1, e2]
      omega
    · rw [if_neg c]
      by_cases z : m = 0
      · subst z
        have e2 : (0 + 1).min (k + 1) = 1 := Nat.min_eq_left (by omega)
        rw [e2, show (0 : Nat).min (k + 1) = 0 from Nat.min_eq_left (by omega)]
        rfl
      · have e1 : m.min (k + 1) = k + 1 := Nat.min_eq_right (by omega)
        have e2 : (m + 1).min (k + 1) = k + 1 := Nat.min_eq_right (by omega)
        rw [e1, e2]
        omega
theorem ch_wt (hn : 0 < n) (nd : F.Nodup) (hF : ∀ x, x ∈ F ↔ 0 ≤ x ∧ x < n) {k : Nat} (hk : k < n) : Sm (szf (chO n)) F (Un (Dm (chO n) (0 :: (chR n ++ []))) k) = if k = 0 then 3 else 4 * (k : Int) := by
  have hp : F.Perm (nums n) := perm_of nd (nums_nd n) fun x => (hF x).trans nums_mem.symm
  rw [Sm.perm hp]
  have hu : ∀ y ∈ nums n, Un (Dm (chO n) (0 :: (chR n ++ []))) k y ↔ y = k ∨ (y ≠ 0 ∧ y < k) := fun y hy => by
    have hy := nums_mem.mp hy
    unfold Un
    rw [ch_dm hn (by omega) hy.1 hy.2]
  rw [Sm.congr hu]
  by_cases z : k = 0
  · subst z
    rw [if_pos rfl, Sm.congr (q := fun y => y = ((0 : Nat) : Int)) fun y hy => by have := nums_mem.mp hy; omega, Sm.one (nums_nd n) (nums_mem.mpr (by omega)), ch_sz hk, if_pos rfl]
  · rw [if_neg z, Sm.congr (q := fun y => y ≠ 0 ∧ y ≤ k) fun y hy => by omega, ch_sum hk (by omega) n (Nat.le_refl _)]
    have : n.min (k + 1) = k + 1 := Nat.min_eq_right (by omega)
    rw [this]
    omega
theorem ch_all (hn : 2 ≤ n) (nd : F.Nodup) (hF : ∀ x, x ∈ F ↔ 0 ≤ x ∧ x < n) : (F.map (szf (chO n))).sum = 4 * (n : Int) - 1 := by
  have hp : F.Perm (nums n) := perm_of nd (nums_nd n) fun x => (hF x).trans nums_mem.symm
  rw [sum_perm (hp.map _), ← Sm.all (p := fun _ => True) fun _ _ => trivial, Sm.congr (q := fun y => (y ≠ 0 ∧ y ≤ ((n - 1 : Nat) : Int)) ∨ y = 0) fun y hy => by have := nums_mem.mp hy; constructor <;> intro _ <;> first | trivial | omega, Sm.or fun y _ h e => h.1 e, ch_sum (by omega) (by omega) n (Nat.le_refl _), Sm.one (nums_nd n) (nums_mem.mpr (by omega))]
  have e0 := ch_sz (n := n) (k := 0) (by omega)
  rw [if_pos rfl] at e0
  have e0 : szf (chO n) 0 = 3 := e0
  rw [e0, show n.min (n - 1 + 1) = n from Nat.min_eq_left (by omega)]
  omega
end

end LX
namespace LX
open PySem PySem.Spec PyProof.Rows L2 NdefX
set_option hygiene false in
local macro_rules | `(tactic| k_memK) => `(tactic| first | exact W.na_Store_room | exact W.na_Store_entries | exact W.na_Store_words | exact W.na_Store__places | exact W.na_Store__least | exact W.na_Space_store | exact W.na_Space_pressure | exact W.na_Space_always | exact W.na_Space_allocations | exact W.na_Space_collections | exact W.na_Space__roots | exact W.na_Space__held | exact W.na_Space__saved)
set_option hygiene false in
local macro_rules | `(tactic| k_ownIn) => `(tactic| first | exact W.C_Store | exact W.C_Space)
local macro_rules | `(tactic| none_booked) => `(tactic| first | assumption | (refine Fr.g0 (by assumption) ?_; none_booked))
local macro_rules | `(tactic| one_sign) => `(tactic| repeat (first
  | refine Stp.h ?_
  | ((with_reducible refine' z_fld1 ?k0 ?k1 ?k2 ?k3 ?_); (case k0 => none_booked); (case k1 => k_ownIn); (case k2 => k_memK); (case k3 => rfl))
  | ((with_reducible refine' z_meth1 ?k0 ?k1 ?_); (case k0 => none_booked); (case k1 => rfl))
  | ((with_reducible refine' z_bmL ?k0 ?_); (case k0 => none_booked))
  | ((with_reducible refine' z_lenL ?k0 ?_); (case k0 => none_booked))
  | ((with_reducible refine' z_lenT ?k0 ?_); (case k0 => none_booked))
  | ((with_reducible refine' z_lenD ?k0 ?_); (case k0 => none_booked))
  | ((with_reducible refine' z_truL ?k0 ?_); (case k0 => none_booked))
  | ((with_reducible refine' z_truD ?k0 ?_); (case k0 => none_booked))
  | ((with_reducible refine' z_truT ?k0 ?_); (case k0 => none_booked))
  | ((with_reducible refine' z_inDIP ?k0 ?_); (case k0 => none_booked))
  | ((with_reducible refine' z_inDIN ?k0 ?_); (case k0 => none_booked))
  | ((with_reducible refine' z_inDfP ?k0 ?_); (case k0 => none_booked))
  | ((with_reducible refine' z_inDfN ?k0 ?_); (case k0 => none_booked))
  | ((with_reducible refine' z_iList1 ?k0 ?_); (case k0 => none_booked))
  | ((with_reducible refine' z_isi0 ?k0 ?k1 ?k2 ?_); (case k0 => exact (ClsV.ty _)); (case k1 => exact (TyX.base (TyOf.lst (by none_booked)))); (case k2 => first | exact kt_list_int | exact kt_list_bool | exact kt_list_str | exact kt_list_list | exact kt_list_tuple | exact kt_list_dict))
  | ((with_reducible refine' z_rI ?k0 ?_); (case k0 => first | exact (by decide : (0 : Int) < _) | exact ⟨by decide, by decide⟩ | exact ⟨by decide, by decide, by decide⟩ | (show (0 : Int) < _; omega)))
  | ((with_reducible refine' z_mulI ?k0 ?_); (case k0 => first | exact Or.inr ⟨by decide, by decide⟩ | exact Or.inl ⟨by decide, by decide⟩ | exact Or.inl ⟨by omega, by omega⟩ | exact Or.inr ⟨by omega, by omega⟩))))
local macro_rules | `(tactic| leaf_len) => `(tactic| (simp only [wipe, List.map_cons, List.map_nil, List.set_cons_zero, List.set_cons_succ]; one_sign; refine z_ok rfl ?_; one_sign))
theorem chO_idx (n : Nat) : Idx (chO n) := fun i o h => by
  obtain ⟨_, rfl⟩ := chO_get h
  rfl
theorem ch_flat : ∀ n : Nat, (flat (chO n)).length ≤ 4 * n
  | 0 => Nat.zero_le _
  | n + 1 => by
    have := ch_flat n
    rw [chO_succ, flat_app, List.length_append]
    have e : (flat [chB false n]).length ≤ 4 := by
      show (fl (chB false n) ++ []).length ≤ 4
      rw [List.append_nil]
      unfold fl chB
      by_cases z : n = 0
      · simp [z]
      · simp [z]
    omega
theorem ch_true {k : Nat} (hk : 0 < k) : chB true k = { num := (k : Int), kind := 1, sl := List.replicate 1 0, live := true } := by unfold chB; rw [if_neg (by omega)]; rfl
theorem ch_false {k : Nat} (hk : 0 < k) : ({ chB true k with sl := (chB true k).sl.set 0 (2 * ((k : Int) - 1)) } : Ob) = chB false k := by
  have h : k ≠ 0 := by omega
  simp [chB, h]
section
variable {P : Program} {w : World} {K : PySem.W.Frag} {mg : Str → Option Value} {base : Heap}
def sp_lchain (PT : Addr) : Sp := fun vs H Q _ => ∃ n : Nat, vs = [.int (n : Int)] ∧ 2 ≤ n ∧ n ≤ 1201 ∧ LamX.TabS H PT qLam ∧ ∀ H', Fr [] H H' → Q (.bl true) H'
theorem ok__law_chain (W : WT P K mg base) : FnOk P w K mg base CX0 8 W.f__law_chain W.fd__law_chain ["_law_count"] (sp_lchain W.PT_Store_close_up) := by
  refine W.F__law_chain.ok sc__law_chain (fun vs H Q E h => by obtain ⟨n, rfl, hn, hn2, tab, k⟩ := h; rfl) (fun cdv A outer s H vs Q E hr h => ?_)
  obtain ⟨n, rfl, hn, hn2, tab, k⟩ := h
  have hu1 := hu_of hr
  have hu64 := hu64_of hr
  refine ⟨_, (pss_cons (ps_set (i := 1) sc__law_chain.nd rfl (by first | exact Or.inl rfl | exact Or.inr rfl) (pe_make W.M_Space (ok_Space___init__ W) (hr.mono (by decide)) rfl W.g_Space W.b_Space___init__ .nil pass0 (pa_cons pe_int (pa_cons pe_int pa_nil))))
      (pss_cons (ps_if (pt_not (pt_truth (pe_call (ok__law_is W) (hr.mono (by decide)) rfl W.g__law_is W.F__law_is.kp W.b__law_is .nil pass0 (pa_cons (pe_meth (pv 1) W.C_Space W.m_Space_new (ok_Space_new W) (hr.mono (by decide)) W.b_Space_new .nil pass0 (pa_cons pe_int (pa_cons pe_int pa_nil))) (pa_cons pe_int pa_nil))) (by intro _; rfl))) (pss_one (ps_ret pe_bl)) pss_nil)
      (pss_cons (ps_for PassesOwn.never rfl (pi_range2 (by rfl) W.n_range (pa_cons pe_int (pa_cons (pv 0) pa_nil))) (pg_name (i := 2) sc__law_chain.nd rfl (by first | exact Or.inl rfl | exact Or.inr rfl)) (pss_cons (ps_expr (pe_meth (pv 1) W.C_Space W.m_Space_set_root (ok_Space_set_root W) (hr.mono (by decide)) W.b_Space_set_root .nil pass0 (pa_cons pe_int (pa_cons (pe_op op_mulU pe_int (pe_meth (pv 1) W.C_Space W.m_Space_new (ok_Space_new W) (hr.mono (by decide)) W.b_Space_new .nil pass0 (pa_cons pe_int (pa_cons pe_int pa_nil)))) pa_nil))))
      (pss_one (ps_expr (pe_meth (pe_fld (pv 1) rfl) W.C_Store W.m_Store_put (ok_Store_put W) (hr.mono (by decide)) W.b_Store_put .nil pass0 (pa_cons (pv 2) (pa_cons pe_int (pa_cons (pe_op op_mulU pe_int (pe_op op_sub (pv 2) pe_int)) pa_nil))))))))
      (pss_cons (ps_set (i := 3) sc__law_chain.nd rfl (by first | exact Or.inl rfl | exact Or.inr rfl) (pe_call (ok_owners W) (hr.mono (by decide)) rfl W.g_owners W.F_owners.kp W.b_owners .nil pass0 (pa_cons (pv 1) pa_nil)))
      (pss_cons (ps_set (i := 4) sc__law_chain.nd rfl (by first | exact Or.inl rfl | exact Or.inr rfl) (pe_call (ok_retained_words W) (hr.mono (by decide)) rfl W.g_retained_words W.F_retained_words.kp W.b_retained_words .nil pass0 (pa_cons (pv 1) pa_nil)))
      (pss_cons (ps_if (PW.pt (pw_or (pt_cmpR (op_neU hu64) (pe_callB call_lenU (by rfl) W.n_len bb_len (pa_cons (pv 3) pa_nil)) (pv 0) (by first | exact nomark _ | rfl)) (pw_or (pt_cmpR (op_neU hu64) (pe_callB call_lenU (by rfl) W.n_len bb_len (pa_cons (pv 4) pa_nil)) (pv 0) (by first | exact nomark _ | rfl)) (pw_or (pt_cmpR op_isnotU (pe_ix (ix_U hu1) (pv 3) pe_int (fun _ _ => rfl)) pe_non (by first | exact nomark _ | rfl)) (pw_or1 (pt_not (pt_truth (pe_call (ok__law_is W) (hr.mono (by decide)) rfl W.g__law_is W.F__law_is.kp W.b__law_is .nil pass0 (pa_cons (pe_ix (ix_U hu1) (pv 4) pe_int (fun _ _ => rfl)) (pa_cons pe_int pa_nil))) (by intro _; rfl)))))))) (pss_one (ps_ret pe_bl)) pss_nil)
      (pss_cons (ps_for PassesOwn.never rfl (pi_range2 (by rfl) W.n_range (pa_cons pe_int (pa_cons (pv 0) pa_nil))) (pg_name (i := 2) sc__law_chain.nd rfl (by first | exact Or.inl rfl | exact Or.inr rfl)) (pss_cons (ps_if (PW.pt (pw_or (PW.pt (pw_and (pt_cmpR op_ltU (pe_op op_addU (pv 2) pe_int) (pv 0) (by first | exact nomark _ | rfl)) (pw_and1 (pt_not (pt_truth (pe_call (ok__law_is W) (hr.mono (by decide)) rfl W.g__law_is W.F__law_is.kp W.b__law_is .nil pass0 (pa_cons (pe_ix (ix_U hu1) (pv 3) (pv 2) (fun _ _ => rfl)) (pa_cons (pe_op op_addU (pv 2) pe_int) pa_nil))) (by intro _; rfl)))))) (pw_or1 (PW.pt (pw_and (pt_cmpR (op_eqU hu64) (pe_op op_addU (pv 2) pe_int) (pv 0) (by first | exact nomark _ | rfl)) (pw_and1 (pt_cmpR op_isnotU (pe_ix (ix_U hu1) (pv 3) (pv 2) (fun _ _ => rfl)) pe_non (by first | exact nomark _ | rfl)))))))) (pss_one (ps_ret pe_bl)) pss_nil)
      (pss_one (ps_if (pt_not (pt_truth (pe_call (ok__law_is W) (hr.mono (by decide)) rfl W.g__law_is W.F__law_is.kp W.b__law_is .nil pass0 (pa_cons (pe_ix (ix_U hu1) (pv 4) (pv 2) (fun _ _ => rfl)) (pa_cons (pe_op op_mulU pe_int (pv 2)) pa_nil))) (by intro _; rfl))) (pss_one (ps_ret pe_bl)) pss_nil))))
      (pss_one (ps_ret (pe_call (ok__law_is W) (hr.mono (by decide)) rfl W.g__law_is W.F__law_is.kp W.b__law_is .nil pass0 (pa_cons (pe_meth0 (pv 1) W.C_Space W.m_Space_live_words (ok_Space_live_words W) (hr.mono (by decide)) W.b_Space_live_words .nil pass0 ) (pa_cons (pe_op op_sub (pe_op op_mulU pe_int (pv 0)) pe_int) pa_nil)))))))))))), ?_⟩
  refine z_start (σ := [some _, none, none, none, none]) rfl ?_
  one_sign
  intro sp dxs hsp hdx ndx
  have hx0 : upd H dxs (.own sp) sp = none := by rw [upd_ne ndx.symm]; exact hsp
  have f0 : Fr [] H (upd (upd H dxs (.own sp)) sp (.ins W.c_Space dxs [])) := (Fr.new hdx).trans (Fr.new hx0)
  refine ⟨sp, dxs, 100000, 100000, rfl, upd_same, fun H1 st dx wl pl pr rt hd S T N old fresh => ⟨rfl, ?_⟩⟩
  have f1 : Fr [] H H1 := fun b o e _ => old b o (f0.g0 e) (ne_of_none e hsp)
  have nX : ∀ q ∈ [sp, st, wl, pl, rt, hd], H q = none := fun q hq => by
    simp only [List.mem_cons, List.not_mem_nil, or_false] at hq
    rcases hq with e | e | e | e | e | e <;> subst e
    · exact hsp
    all_goals exact f0.none (fresh _ (by simp))
  clear old fresh f0 hx0
  have ss1 : SS W.c_Store W.c_Space W.PT_Store_close_up H1 sp dxs st dx wl pl pr rt hd 0 0 0 [] [] (List.replicate 16 0) [] := ⟨S, T, N, Good.empty, by simp, by simp, by simp, by simp, (by show 0 ≤ 5000; decide), by simp, by simp, tab.ext fun b o e => f1.g0 e⟩
  clear S T
  have hsp1 := ss1.S.sp
  have sub4 : ∀ q ∈ [sp, st, wl, pl], H q = none := fun q hq => nX q (by simp only [List.mem_cons, List.not_mem_nil, or_false] at hq ⊢; rcases hq with e | e | e | e <;> simp [e])
  one_sign
  refine ⟨sp, dxs, st, pr, rt, hd, 0, 0, _, _, dx, wl, pl, 100000, 100000, 0, flat [], [], 1, 0, rfl, ss1.S, ss1.T, ss1.N, ss1.G.seen, by decide, by decide, by decide, by decide, fun m H2 S2 T2 f2 hs2 hm2 => ?_⟩
  have em : m = 0 := by
    have h1 := hs2.1
    by_cases h : 0 < m
    · have := hs2.2 0 (by omega) h
      simp [valV] at this
    · omega
  subst em
  have ss2 := ss1.add (z := 0) (x := 1) (by decide) (by simp) (by simp [flat]) S2 T2 f2 hs2 hm2
  have f02 : Fr [] H H2 := f1.inF f2 sub4
  one_sign
  refine ⟨_, _, rfl, ?_⟩
  one_sign
  rw [decide_eq_true rfl]
  one_sign
  refine z_rng2 (n - 1) (by omega) ⟨by omega, by omega, by omega, by omega⟩ ?_
  refine for_range (lo := 1) (n := n - 1) (fun i σ H' => ∃ (v2 : Option V) (al least : Int) (kvs : List (Key × V)), σ = [some (.int (n : Int)), some (.ref sp), v2, none, none] ∧ SS W.c_Store W.c_Space W.PT_Store_close_up H' sp dxs st dx wl pl pr rt hd al 0 least (chO (i + 1)) kvs (chR (i + 1)) [] ∧ Fr [] H H')
    ⟨_, _, _, _, rfl, ss2, f02⟩ (fun i σ H3 hi hI => ?_) (fun σ H3 hI => ?_)
  · obtain ⟨v2, al, least, kvs, rfl, ss3, f3⟩ := hI
    rw [show (1 : Int) + (i : Int) = ((i + 1 : Nat) : Int) by omega]
    have hsp3 := ss3.S.sp
    one_sign
    have hfl := ch_flat (i + 1)
    have hkl := ss3.G.kl
    rw [chO_len] at hkl
    refine ⟨sp, dxs, st, pr, rt, hd, al, 0, _, _, dx, wl, pl, 100000, 100000, least, flat (chO (i + 1)), kvs, 1, 1, rfl, ss3.S, ss3.T, ss3.N, ss3.G.seen, by omega, by omega, by omega, by omega, fun m H4 S4 T4 f4 hs4 hm4 => ?_⟩
    have em : m = ((i + 1 : Nat) : Int) := by
      have iffL := fun x => (ss3.G.iff x).trans ch_live
      have h1 : ¬ (m < ((i + 1 : Nat) : Int)) := fun h => by
        have := (iffL m).mpr ⟨hs4.1, h⟩
        rw [hm4] at this
        cases this
      have h2 : ¬ (((i + 1 : Nat) : Int) < m) := fun h => by
        have := (iffL ((i + 1 : Nat) : Int)).mp (hs4.2 _ (by omega) h)
        omega
      omega
    subst em
    have ss4 := ss3.add (z := 1) (x := 1) (by decide) (by rw [chO_len]; omega) (by omega) S4 T4 f4 hs4 hm4
    rw [← ch_true (Nat.succ_pos i)] at ss4
    have f04 : Fr [] H H4 := f3.inF f4 sub4
    one_sign
    refine ⟨sp, dxs, st, pr, rt, hd, al + 1, 0, _, _, 5, 2 * ((i + 1 : Nat) : Int), rfl, ss4.S, by unfold chR; rw [List.length_set]; simp, ?_⟩
    have f5 : Fr [rt] H4 (upd H4 rt (.lst (((chR (i + 1)).set 5 (2 * ((i + 1 : Nat) : Int))).map V.int))) := Fr.at (by simp)
    have ss5 := ss4.root (rs' := (chR (i + 1)).set 5 (2 * ((i + 1 : Nat) : Int))) (by rw [List.length_set]) f5 upd_same
    generalize upd H4 rt (.lst (((chR (i + 1)).set 5 (2 * ((i + 1 : Nat) : Int))).map V.int)) = H5 at f5 ss5
    have er : (chR (i + 1)).set 5 (2 * ((i + 1 : Nat) : Int)) = chR (i + 1 + 1) := by
      unfold chR
      rw [List.set_set]
      congr 1
      omega
    rw [er] at ss5
    have f05 : Fr [] H H5 := f04.inF f5 (fun q hq => nX q (by simp at hq; simp [hq]))
    have hsp5 := ss5.S.sp
    have hst5 := ss5.T.st
    one_sign
    have ho : (chO (i + 1) ++ [chB true (i + 1)])[i + 1]? = some (chB true (i + 1)) := by rw [List.getElem?_append_right (by rw [chO_len]; exact Nat.le_refl _), chO_len, Nat.sub_self]; rfl
    have hol := off_lt ho
    have hsl : (chB true (i + 1)).sl.length = 1 := by rw [ch_true (Nat.succ_pos i)]; rfl
    have h9 : off (chO (i + 1) ++ [chB true (i + 1)]) (i + 1) + 3 + 0 < (flat (chO (i + 1) ++ [chB true (i + 1)])).length := by
      rw [hsl] at hol
      omega
    refine ⟨st, dx, wl, pl, _, _, _, _, _, ((i + 1 : Nat) : Int), off (chO (i + 1) ++ [chB true (i + 1)]) (i + 1), 0, 2 * (((i + 1 : Nat) : Int) - 1), rfl, ss5.T, ss5.G.at ho rfl, h9, ?_⟩
    rw [set_slot _ ho (by omega)]
    one_sign
    have ss6 := ss5.change (o' := { chB true (i + 1) with sl := (chB true (i + 1)).sl.set 0 (2 * (((i + 1 : Nat) : Int) - 1)) }) ho rfl rfl (by show ((chB true (i + 1)).sl.set 0 _).length = _; rw [List.length_set]) (Fr.at (H := H5) (q := wl) (o := .lst ((flat ((chO (i + 1) ++ [chB true (i + 1)]).set (i + 1) { chB true (i + 1) with sl := (chB true (i + 1)).sl.set 0 (2 * (((i + 1 : Nat) : Int) - 1)) })).map V.int)) (by simp)) upd_same
    have eo : (chO (i + 1) ++ [chB true (i + 1)]).set (i + 1) { chB true (i + 1) with sl := (chB true (i + 1)).sl.set 0 (2 * (((i + 1 : Nat) : Int) - 1)) } = chO (i + 1 + 1) := by
      rw [ch_false (Nat.succ_pos i), chO_succ (i + 1), List.set_append_right _ _ (by rw [chO_len]; exact Nat.le_refl _), chO_len, Nat.sub_self]
      rfl
    rw [eo] at ss6
    rw [eo]
    exact ⟨_, _, _, _, rfl, ss6, f05.inF (Fr.at (F := [wl]) (by simp)) (fun q hq => nX q (by simp at hq; simp [hq]))⟩
  obtain ⟨v2, al, least, kvs, rfl, ss3, f3⟩ := hI
  rw [show n - 1 + 1 = n by omega] at ss3
  have spc : ∀ H', Fr [] H3 H' → Spc W.c_Store W.c_Space W.PT_Store_close_up H' sp _ (chO n) (chR n) [] := fun H' f => ⟨_, _, _, _, _, _, _, _, _, _, _, _, rfl, ss3.keep f⟩
  one_sign
  refine ⟨sp, _, chO n, chR n, [], rfl, spc _ Fr.rfl', fun D1 F1 ow H4 hD1 D14 hF1 df1 f4 => ?_⟩
  one_sign
  refine ⟨sp, _, chO n, chR n, [], rfl, spc _ f4, fun D2 F2 wt ow2 H5 hD2 D25 hF2 df2 hwt f5 => ?_⟩
  have D15 := f5.g0 D14
  have hn0 : 0 < n := by omega
  have m1 : ∀ x, x ∈ F1 ↔ 0 ≤ x ∧ x < n := fun x => (hF1.re x).trans (ch_reach hn0)
  have m2 : ∀ x, x ∈ F2 ↔ 0 ≤ x ∧ x < n := fun x => (hF2.re x).trans (ch_reach hn0)
  have nl : (nums n).length = n := by unfold nums; rw [List.length_map, List.length_range]
  have l1 : (mK F1 fun n => ovV (ow n)).length = n := by unfold mK; rw [List.length_map, (perm_of hF1.nd (nums_nd n) fun x => (m1 x).trans nums_mem.symm).length_eq, nl]
  have l2 : (mK F2 fun n => V.int (wt n)).length = n := by unfold mK; rw [List.length_map, (perm_of hF2.nd (nums_nd n) fun x => (m2 x).trans nums_mem.symm).length_eq, nl]
  have v1 : ∀ j : Nat, j < n → valV (mK F1 fun n => ovV (ow n)) (.inl (j : Int)) = some (ovV (if 0 < j ∧ j + 1 < n then some ((j : Int) + 1) else none)) := fun j hj => by rw [mK_val hF1.nd ((m1 _).mpr (by omega)), ch_own hn0 m1 df1 hj]
  have v2 : ∀ j : Nat, j < n → valV (mK F2 fun n => V.int (wt n)) (.inl (j : Int)) = some (.int (if j = 0 then 3 else 4 * (j : Int))) := fun j hj => by rw [mK_val hF2.nd ((m2 _).mpr (by omega)), hwt _ ((m2 _).mpr (by omega)), ch_wt hn0 hF2.nd m2 hj]
  have f05 := (f3.trans f4).trans f5
  one_sign
  rw [l1, decide_eq_true rfl]
  one_sign
  rw [l2, decide_eq_true rfl]
  one_sign
  have v10 := v1 0 hn0
  rw [if_neg (by omega)] at v10
  have v10 : valV (mK F1 fun n => ovV (ow n)) (.inl ((0 : Nat) : Int)) = some V.non := v10
  have v20 := v2 0 hn0
  rw [if_pos rfl] at v20
  refine z_ixD D15 v10 ?_
  one_sign
  refine z_ixD D25 v20 ?_
  one_sign
  refine ⟨_, _, rfl, ?_⟩
  one_sign
  rw [decide_eq_true rfl]
  one_sign
  refine z_rng2 (n - 1) (by omega) ⟨by omega, by omega, by omega, by omega⟩ ?_
  refine for_range (lo := 1) (n := n - 1) (fun i σ H' => ∃ (v2 : Option V), σ = [some (.int (n : Int)), some (.ref sp), v2, some (.ref D1), some (.ref D2)] ∧ H' = H5)
    ⟨_, rfl, rfl⟩ (fun i σ H6 hi hI => ?_) (fun σ H6 hI => ?_)
  · obtain ⟨v2', rfl, rfl⟩ := hI
    rw [show (1 : Int) + (i : Int) = ((i + 1 : Nat) : Int) by omega]
    have v1i := v1 (i + 1) (by omega)
    have v2i := v2 (i + 1) (by omega)
    rw [if_neg (by omega)] at v2i
    one_sign
    refine iteD (fun h => ?_) (fun h => ?_)
    · have h : ((i + 1 : Nat) : Int) + 1 < (n : Int) := h
      rw [if_pos (by omega)] at v1i
      have v1i : valV (mK F1 fun n => ovV (ow n)) (.inl ((i + 1 : Nat) : Int)) = some (V.int (((i + 1 : Nat) : Int) + 1)) := v1i
      one_sign
      refine z_ixD D15 v1i ?_
      one_sign
      refine ⟨_, _, rfl, ?_⟩
      one_sign
      rw [decide_eq_true rfl]
      one_sign
      rw [decide_eq_false (by omega)]
      one_sign
      refine z_ixD D25 v2i ?_
      one_sign
      refine ⟨_, _, rfl, ?_⟩
      one_sign
      rw [decide_eq_true rfl]
      one_sign
      exact ⟨_, rfl, rfl⟩
    · have h : ¬ ((i + 1 : Nat) : Int) + 1 < (n : Int) := h
      rw [if_neg (by omega)] at v1i
      have v1i : valV (mK F1 fun n => ovV (ow n)) (.inl ((i + 1 : Nat) : Int)) = some V.non := v1i
      one_sign
      rw [decide_eq_true (by omega)]
      one_sign
      refine z_ixD D15 v1i ?_
      one_sign
      refine z_ixD D25 v2i ?_
      one_sign
      refine ⟨_, _, rfl, ?_⟩
      one_sign
      rw [decide_eq_true rfl]
      one_sign
      exact ⟨_, rfl, rfl⟩
  obtain ⟨v2', rfl, rfl⟩ := hI
  have hsp6 := (ss3.keep (f4.trans f5)).S.sp
  one_sign
  refine ⟨sp, _, chO n, chR n, [], rfl, spc _ (f4.trans f5), fun F9 H7 nd9 hF9 f7 => ?_⟩
  rw [ch_all hn nd9 fun x => (hF9 x).trans (ch_reach hn0)]
  one_sign
  refine ⟨_, _, rfl, ?_⟩
  one_sign
  rw [decide_eq_true rfl]
  exact k H7 (f05.trans f7)
end

end LX
namespace LX
open PySem PySem.Spec PyProof.Rows L2 NdefX
set_option hygiene false in
local macro_rules | `(tactic| k_memK) => `(tactic| first | exact W.na_Store_room | exact W.na_Store_entries | exact W.na_Store_words | exact W.na_Store__places | exact W.na_Store__least | exact W.na_Space_store | exact W.na_Space_pressure | exact W.na_Space_always | exact W.na_Space_allocations | exact W.na_Space_collections | exact W.na_Space__roots | exact W.na_Space__held | exact W.na_Space__saved)
set_option hygiene false in
local macro_rules | `(tactic| k_ownIn) => `(tactic| first | exact W.C_Store | exact W.C_Space)
local macro_rules | `(tactic| none_booked) => `(tactic| first | assumption | (refine Fr.g0 (by assumption) ?_; none_booked))
local macro_rules | `(tactic| one_sign) => `(tactic| repeat (first
  | refine Stp.h ?_
  | ((with_reducible refine' z_fld1 ?k0 ?k1 ?k2 ?k3 ?_); (case k0 => none_booked); (case k1 => k_ownIn); (case k2 => k_memK); (case k3 => rfl))
  | ((with_reducible refine' z_meth1 ?k0 ?k1 ?_); (case k0 => none_booked); (case k1 => rfl))
  | ((with_reducible refine' z_bmL ?k0 ?_); (case k0 => none_booked))
  | ((with_reducible refine' z_lenL ?k0 ?_); (case k0 => none_booked))
  | ((with_reducible refine' z_lenT ?k0 ?_); (case k0 => none_booked))
  | ((with_reducible refine' z_lenD ?k0 ?_); (case k0 => none_booked))
  | ((with_reducible refine' z_truL ?k0 ?_); (case k0 => none_booked))
  | ((with_reducible refine' z_truD ?k0 ?_); (case k0 => none_booked))
  | ((with_reducible refine' z_truT ?k0 ?_); (case k0 => none_booked))
  | ((with_reducible refine' z_inDIP ?k0 ?_); (case k0 => none_booked))
  | ((with_reducible refine' z_inDIN ?k0 ?_); (case k0 => none_booked))
  | ((with_reducible refine' z_inDfP ?k0 ?_); (case k0 => none_booked))
  | ((with_reducible refine' z_inDfN ?k0 ?_); (case k0 => none_booked))
  | ((with_reducible refine' z_iList1 ?k0 ?_); (case k0 => none_booked))
  | ((with_reducible refine' z_isi0 ?k0 ?k1 ?k2 ?_); (case k0 => exact (ClsV.ty _)); (case k1 => exact (TyX.base (TyOf.lst (by none_booked)))); (case k2 => first | exact kt_list_int | exact kt_list_bool | exact kt_list_str | exact kt_list_list | exact kt_list_tuple | exact kt_list_dict))
  | ((with_reducible refine' z_rI ?k0 ?_); (case k0 => first | exact (by decide : (0 : Int) < _) | exact ⟨by decide, by decide⟩ | exact ⟨by decide, by decide, by decide⟩ | (show (0 : Int) < _; omega)))
  | ((with_reducible refine' z_mulI ?k0 ?_); (case k0 => first | exact Or.inr ⟨by decide, by decide⟩ | exact Or.inl ⟨by decide, by decide⟩ | exact Or.inl ⟨by omega, by omega⟩ | exact Or.inr ⟨by omega, by omega⟩))))
local macro_rules | `(tactic| leaf_len) => `(tactic| (simp only [wipe, List.map_cons, List.map_nil, List.set_cons_zero, List.set_cons_succ]; one_sign; refine z_ok rfl ?_; one_sign))
section
variable {P : Program} {w : World} {K : PySem.W.Frag} {mg : Str → Option Value} {base : Heap}
def sp_law66 (K : PySem.W.Frag) (PT : Addr) : Sp := fun vs H Q _ => ∃ (a : Addr) (ns : List Int), vs = [.ref a] ∧ SqL K H a (ns.map V.int) ∧ ns.length ≤ 63 ∧ LamX.TabS H PT qLam ∧ ∀ H', Q (.bl true) H'
theorem ok_law (W : WT P K mg base) : FnOk P w K mg base CX0 9 W.f_law W.fd_law ["_law_script"] (sp_law66 K W.PT_Store_close_up) := by
  refine W.F_law.ok sc_law (fun vs H Q E h => by obtain ⟨a, ns, rfl, hs, hl, tab, k⟩ := h; rfl) (fun cdv A outer s H vs Q E hr h => ?_)
  obtain ⟨a, ns, rfl, hs, hl, tab, k⟩ := h
  have hu1 := hu_of hr
  have hu64 := hu64_of hr
  refine ⟨_, (pss_cons (ps_setLc (i := 1) (own := [("_law_cell", 2)]) (g := gName 2) (tt := tYes) rfl sc_law.nd rfl rfl (sw_true rfl rfl rfl (by decide +kernel)) (pi_list (pv 0)) (blkOk_by (N := N_law) (sc := defScope s_law) (by first | decide +kernel | rfl)) (fun _ _ _ _ _ => (pg_name (i := 2) sc_law.nd rfl (by first | exact Or.inl rfl | exact Or.inr rfl))) (fun _ _ _ _ _ => pts_nil) (fun _ _ _ _ _ => (pe_callTy call_intU (by rfl) W.n_int bb_int (pa_cons (pv 2) pa_nil))))
      (Evl.pss_cut (ps_while PassesOwn.never (pt_cmpR op_ltU (pe_callB call_lenU (by rfl) W.n_len bb_len (pa_cons (pv 1) pa_nil)) pe_int (by first | exact nomark _ | rfl)) (pss_one (ps_expr (pe_bm PySem.F.plainAttrs_list PySem.F.slot_list_append PySem.F.type_list_append mt_append (pv 1) (pa_cons pe_int pa_nil)))))
      (pss_cons (ps_set (i := 3) sc_law.nd rfl (by first | exact Or.inl rfl | exact Or.inr rfl) (pe_call (ok__law_number W) (hr.mono (by decide)) rfl W.g__law_number W.F__law_number.kp W.b__law_number .nil pass0 (pa_cons (pe_ix (ix_U hu1) (pv 1) pe_int (fun _ _ => rfl)) (pa_cons pe_int pa_nil))))
      (Evl.pss_cut (ps_if (PW.pt (pw_and (pt_cmpR (op_eqU hu64) (pe_op op_mod (pe_op op_fdivW (pv 3) pe_int) pe_int) pe_int (by first | exact nomark _ | rfl)) (pw_and1 (pt_not (pt_truth (pe_call (ok__law_chain W) (hr.mono (by decide)) rfl W.g__law_chain W.F__law_chain.kp W.b__law_chain .nil pass0 (pa_cons (pe_op op_addU pe_int (pe_op op_mod (pe_op op_fdivW (pv 3) pe_int) pe_int)) pa_nil)) (by intro _; rfl)))))) (pss_one (ps_ret pe_bl)) pss_nil)
      (pss_cons (ps_set (i := 4) sc_law.nd rfl (by first | exact Or.inl rfl | exact Or.inr rfl) pe_dnewK)
      (pss_cons (ps_set (i := 5) sc_law.nd rfl (by first | exact Or.inl rfl | exact Or.inr rfl) (pe_call (ok__law_rows W) (hr.mono (by decide)) rfl W.g__law_rows W.F__law_rows.kp W.b__law_rows .nil pass0 (pa_cons (pe_call (ok__law_sizes W) (hr.mono (by decide)) rfl W.g__law_sizes W.F__law_sizes.kp W.b__law_sizes .nil pass0 (pa_cons (pv 3) pa_nil)) (pa_cons (pe_ix (ix_U hu1) (pv 1) pe_int (fun _ _ => rfl)) pa_nil))))
      (pss_cons (ps_for PassesOwn.never rfl (pi_range1 (by rfl) W.n_range (pa_cons (pe_callB call_lenU (by rfl) W.n_len bb_len (pa_cons (pv 5) pa_nil)) pa_nil)) (pg_name (i := 6) sc_law.nd rfl (by first | exact Or.inl rfl | exact Or.inr rfl)) (pss_one (ps_dput hu1 (pv 4) (pv 6) (pe_ix (ix_U hu1) (pv 5) (pv 6) (fun _ _ => rfl)) rfl)))
      (pss_cons (ps_set (i := 7) sc_law.nd rfl (by first | exact Or.inl rfl | exact Or.inr rfl) (pe_call (ok__law_roots W) (hr.mono (by decide)) rfl W.g__law_roots W.F__law_roots.kp W.b__law_roots .nil pass0 (pa_cons (pe_callB call_lenU (by rfl) W.n_len bb_len (pa_cons (pv 5) pa_nil)) (pa_cons (pe_ix (ix_U hu1) (pv 1) pe_int (fun _ _ => rfl)) pa_nil))))
      (pss_cons (ps_set (i := 8) sc_law.nd rfl (by first | exact Or.inl rfl | exact Or.inr rfl) (pe_call (ok__law_space W) (hr.mono (by decide)) rfl W.g__law_space W.F__law_space.kp W.b__law_space .nil pass0 (pa_cons (pv 5) (pa_cons (pv 7) pa_nil))))
      (pss_cons (ps_if (PW.pt (pw_or (pt_cmpR op_isU (pv 8) pe_non (by first | exact nomark _ | rfl)) (pw_or1 (pt_not (pt_truth (pe_call (ok__law_agrees W) (hr.mono (by decide)) rfl W.g__law_agrees W.F__law_agrees.kp W.b__law_agrees .nil pass0 (pa_cons (pv 8) (pa_cons (pv 4) (pa_cons (pv 7) (pa_cons pe_int pa_nil))))) (by intro _; rfl)))))) (pss_one (ps_ret pe_bl)) pss_nil)
      (pss_cons (ps_for PassesOwn.never rfl (pi_range2 (by rfl) W.n_range (pa_cons pe_int (pa_cons (pe_callB (call_min2 rfl) (by rfl) W.n_min bb_min (pa_cons (pe_callB call_lenU (by rfl) W.n_len bb_len (pa_cons (pv 1) pa_nil)) (pa_cons pe_int pa_nil))) pa_nil))) (pg_name (i := 6) sc_law.nd rfl (by first | exact Or.inl rfl | exact Or.inr rfl)) (pss_cons (ps_if (pt_not (pt_truth (pe_call (ok__law_changed W) (hr.mono (by decide)) rfl W.g__law_changed W.F__law_changed.kp W.b__law_changed .nil pass0 (pa_cons (pv 8) (pa_cons (pv 4) (pa_cons (pv 7) (pa_cons (pe_callB call_lenU (by rfl) W.n_len bb_len (pa_cons (pv 5) pa_nil)) (pa_cons (pe_call (ok__law_number W) (hr.mono (by decide)) rfl W.g__law_number W.F__law_number.kp W.b__law_number .nil pass0 (pa_cons (pe_ix (ix_U hu1) (pv 1) (pv 6) (fun _ _ => rfl)) (pa_cons (pv 6) pa_nil))) pa_nil)))))) (by intro _; rfl))) (pss_one (ps_ret pe_bl)) pss_nil)
      (pss_one (ps_if (pt_not (pt_truth (pe_call (ok__law_agrees W) (hr.mono (by decide)) rfl W.g__law_agrees W.F__law_agrees.kp W.b__law_agrees .nil pass0 (pa_cons (pv 8) (pa_cons (pv 4) (pa_cons (pv 7) (pa_cons (pv 6) pa_nil))))) (by intro _; rfl))) (pss_one (ps_ret pe_bl)) pss_nil))))
      (pss_one (ps_ret (pe_call (ok__law_kept W) (hr.mono (by decide)) rfl W.g__law_kept W.F__law_kept.kp W.b__law_kept .nil pass0 (pa_cons (pv 8) (pa_cons (pv 4) (pa_cons (pv 7) pa_nil))))))))))))))))), ?_⟩
  refine z_start (σ := [some _, none, none, none, none, none, none, none, none]) rfl ?_
  one_sign
  refine z_iterQ hs ?_
  refine z_lcQ hs (fun i xs H' => xs = (ns.take i).map V.int) (fun _ _ _ _ => rfl) (fun R i x xs H1 hR hi hlt hxl hxs hR1 f1 => ?_) (fun cl xs H1 hcl hxs hxl hR1 f1 => ?_)
  · rw [List.getElem?_map] at hi
    obtain ⟨n, hn, rfl⟩ := Option.map_eq_some_iff.mp hi
    have hxs : xs = (ns.take i).map V.int := hxs
    subst hxs
    leaf_len
    exact z_lcY hR hR1 f1 hxl (by rw [List.length_map] at hlt; rw [sizeLine_eq]; omega) fun H5 _ _ _ => by
      show _ = _
      rw [List.take_succ, hn, List.map_append]; rfl
  have hxs : xs = (ns.take (ns.map V.int).length).map V.int := hxs
  rw [List.length_map, List.take_length] at hxs
  subst hxs
  one_sign
  refine Evl.q_cut (M := fun σ H' => ∃ ns2 : List Int, σ = [some (.ref a), some (.ref cl), none, none, none, none, none, none, none] ∧ H' cl = some (.lst (ns2.map V.int)) ∧ 3 ≤ ns2.length ∧ ns2.length ≤ 66 ∧ Fr [] H H') ?_ ?_
  · refine ⟨fun m σ H' => ∃ ns2 : List Int, σ = [some (.ref a), some (.ref cl), none, none, none, none, none, none, none] ∧ H' cl = some (.lst (ns2.map V.int)) ∧ ns2.length ≤ 66 ∧ Fr [] H H' ∧ m = 3 - ns2.length, ⟨_, ns, rfl, hR1, by omega, f1, rfl⟩, ?_⟩
    rintro m σ H2 ⟨ns2, rfl, hc2, hl2, f2, rfl⟩
    one_sign
    rw [List.length_map]
    refine iteD (fun h => ?_) (fun h => ?_)
    · have h : (ns2.length : Int) < 3 := h
      refine ⟨_, fun _ _ z => z, ?_⟩
      one_sign
      refine z_append hc2 (by rw [List.length_map, sizeLine_eq]; omega) fun H3 f3 h3 n3 => ?_
      exact ⟨3 - (ns2.length + 1), by omega, ns2 ++ [7], rfl, by rw [h3, List.map_append]; rfl, by rw [List.length_append]; show ns2.length + 1 ≤ 66; omega, f2.in f3 hcl, by rw [List.length_append]; rfl⟩
    · have h : ¬ (ns2.length : Int) < 3 := h
      one_sign
      exact ⟨ns2, rfl, hc2, by omega, hl2, f2⟩
  rintro σ H2 ⟨ns2, rfl, hc2, h3, h66, f2⟩
  obtain ⟨c0, h0⟩ : ∃ c, ns2[0]? = some c := ⟨_, List.getElem?_eq_getElem (by omega)⟩
  obtain ⟨c1, h1⟩ : ∃ c, ns2[1]? = some c := ⟨_, List.getElem?_eq_getElem (by omega)⟩
  obtain ⟨c2, h2⟩ : ∃ c, ns2[2]? = some c := ⟨_, List.getElem?_eq_getElem (by omega)⟩
  one_sign
  refine z_ixL hc2 (atI_nat (j := 0) (int_at h0)) ?_
  one_sign
  refine ⟨_, _, rfl, by omega, by omega, fun x hx => ?_⟩
  one_sign
  refine Evl.q_cut (M := fun σ H' => σ = [some (.ref a), some (.ref cl), none, some (.int x), none, none, none, none, none] ∧ Fr [] H2 H') ?_ ?_
  · one_sign
    refine iteD (fun h => ?_) (fun h => ?_)
    · one_sign
      have q0 := Int.emod_nonneg (x / 112) (by decide : (1200 : Int) ≠ 0)
      have q1 := Int.emod_lt_of_pos (x / 112) (by decide : (0 : Int) < 1200)
      refine ⟨(2 + x / 112 % 1200).toNat, by rw [show (((2 + x / 112 % 1200).toNat : Nat) : Int) = 2 + x / 112 % 1200 by omega]; rfl, by omega, by omega, tab.ext fun b o e => f2.g0 e, fun H3 f3 => ?_⟩
      one_sign
      exact ⟨rfl, f3⟩
    · one_sign
      exact ⟨rfl, Fr.rfl'⟩
  rintro σ H2' ⟨rfl, f2'⟩
  have hc2 := f2'.g0 hc2
  have f2 := f2.trans f2'
  clear f2'
  one_sign
  intro d H3 hd f3 d3
  have hc3 := f3.g0 hc2
  one_sign
  refine ⟨x, rfl, fun za zs H4 hz1 hz2 hz3 hz0 f4 => ?_⟩
  have hc4 := f4.g0 hc3
  one_sign
  refine z_ixL hc4 (atI_nat (j := 1) (int_at h1)) ?_
  one_sign
  refine ⟨za, zs, c1, rfl, hz3, hz1, hz2, fun ra A R H5 hra L hR hAn hAnew hra0 f5 => ?_⟩
  have hRl : R.length = zs.length := by
    have := congrArg List.length hR
    rwa [List.length_map, List.length_map] at this
  have hAl := L.len
  have d5 := f5.g0 (f4.g0 d3)
  have hd0 : H d = none := f2.none hd
  have hc5 := f5.g0 hc4
  have f05 := ((f2.trans f3).trans f4).trans f5
  one_sign
  rw [List.length_map]
  refine z_rng1 A.length rfl (by omega) ?_
  refine for_range (lo := 0) (n := A.length) (fun i σ H' => ∃ v6 : Option V, σ = [some (.ref a), some (.ref cl), none, some (.int x), some (.ref d), some (.ref ra), v6, none, none] ∧ H' d = some (.dK (dL (A.take i) (nums i))) ∧ Fr [d] H5 H')
    ⟨_, rfl, d5, Fr.rfl'⟩ (fun i σ H8 hi hI => ?_) (fun σ H8 hI => ?_)
  · obtain ⟨v6, rfl, d8, f8⟩ := hI
    obtain ⟨b, hb⟩ : ∃ b, A[i]? = some b := ⟨_, List.getElem?_eq_getElem hi⟩
    have hra8 := f8.g hra (nin (ne_of hra d5 (by intro z; cases z)))
    one_sign
    refine z_ixL hra8 (by rw [Int.zero_add]; exact atI_nat (ref_at hb)) ?_
    one_sign
    have tl : (A.take i).length = (nums i).length := by unfold nums; rw [List.length_take, List.length_map, List.length_range]; omega
    refine z_dputI d8 (by rw [dL_len tl]; unfold nums; rw [List.length_map, List.length_range, sizeLine_eq]; omega) fun H9 f9 d9 n9 => ?_
    rw [Int.zero_add, dL_put tl (fun h => by have := nums_mem.mp h; omega), ← nums_succ] at d9
    one_sign
    exact ⟨_, rfl, by rw [d9, List.take_succ, hb]; rfl, f8.trans f9⟩
  obtain ⟨v6, rfl, d8, f8⟩ := hI
  rw [List.take_length] at d8
  have g8 : Fr [] H H8 := f05.in f8 hd0
  have nda : ∀ c o, H5 c = some o → c ≠ d → H8 c = some o := fun c o e n => f8.g e (nin n)
  have hra8 := nda ra _ hra (ne_of hra d5 (by intro z; cases z))
  have hc8 := nda cl _ hc5 (ne_of hc5 d5 (by intro z; cases z))
  have L8 : RwL H8 A R := L.keep f8 fun c hc => nin fun z => by
    obtain ⟨u, hu⟩ := List.getElem?_of_mem hc
    obtain ⟨r, hr⟩ : ∃ r, R[u]? = some r := ⟨_, List.getElem?_eq_getElem (by rw [← hAl]; exact (List.getElem?_eq_some_iff.mp hu).1)⟩
    have := L.it u c r hu hr
    rw [z, d5] at this; cases this
  one_sign
  rw [List.length_map]
  refine z_ixL hc8 (atI_nat (j := 2) (int_at h2)) ?_
  one_sign
  refine ⟨A.length, c2, rfl, by omega, fun wa ws H9 hwa w16 w28 hwa0 f9 => ?_⟩
  have tab9 := tab.ext fun b o e => f9.g0 (g8.g0 e)
  one_sign
  refine ⟨ra, wa, A, R, ws, rfl, f9.g0 hra8, L8.mono f9, by omega, fun r hr => ?_, hwa, w16, w28, tab9, fun sp X O rs hs2 H10 S10 ews hO10 hix nX f10 => ?_⟩
  · obtain ⟨i, hi⟩ := List.getElem?_of_mem hr
    have e := congrArg (·[i]?) hR
    simp only [List.getElem?_map, hi] at e
    cases hz : zs[i]? with
    | none => rw [hz] at e; cases e
    | some z =>
      rw [hz] at e
      have e : r.length = z + 1 := Option.some.inj e
      have := hz2 z (List.mem_of_getElem? hz)
      omega
  have hOl : O.length = A.length := by
    have := congrArg List.length hO10
    rw [List.length_map] at this
    omega
  have hlv : ∀ o ∈ O, o.live = true := by
    obtain ⟨dxs, st, dx, wl, pl, pr, rt, hd, al, co, least, kvs, rfl, ss⟩ := S10
    exact ss.lv
  have enums : O.map (·.num) = nums A.length := by
    refine List.ext_getElem? fun i => ?_
    unfold nums
    rw [List.getElem?_map, List.getElem?_map]
    cases e : O[i]? with
    | none =>
      have := List.getElem?_eq_none_iff.mp e
      rw [List.getElem?_eq_none_iff.mpr (by rw [List.length_range]; omega)]; rfl
    | some o =>
      have := (List.getElem?_eq_some_iff.mp e).1
      rw [List.getElem?_range (by omega)]
      show some o.num = some (i : Int)
      rw [hix i o e]
  have f910 := f9.trans f10
  have d10 : H10 d = some (.dK (dR A O)) := by
    rw [f910.g0 d8]
    unfold dL
    rw [dR_nums (O' := O) (by rw [mkO_num, enums])]
  have some9 : ∀ c o, H9 c = some o → c ∉ X := fun c o e hm => by rw [nX c hm] at e; cases e
  have someA : ∀ c ∈ A, ∃ r : List Int, H8 c = some (.lst (r.map V.int)) := fun c hc => by
    obtain ⟨u, hu⟩ := List.getElem?_of_mem hc
    obtain ⟨r, hr⟩ : ∃ r, R[u]? = some r := ⟨_, List.getElem?_eq_getElem (by rw [← hAl]; exact (List.getElem?_eq_some_iff.mp hu).1)⟩
    exact ⟨r, L8.it u c r hu hr⟩
  have waA : wa ∉ A := fun h => by
    obtain ⟨r, e⟩ := someA wa h
    rw [e] at hwa0; cases hwa0
  have clA : cl ∉ A := fun h => by have := hAnew cl h; rw [hc4] at this; cases this
  have raA : ra ∉ A := fun h => by
    obtain ⟨u, hu⟩ := List.getElem?_of_mem h
    obtain ⟨r, hr⟩ : ∃ r, R[u]? = some r := ⟨_, List.getElem?_eq_getElem (by rw [← hAl]; exact (List.getElem?_eq_some_iff.mp hu).1)⟩
    have e1 := L8.it u ra r hu hr
    rw [hra8] at e1
    have e1 : A.map V.ref = r.map V.int := HO.lst.inj (Option.some.inj e1)
    cases A with
    | nil => cases h
    | cons c t => cases r with
      | nil => cases e1
      | cons c s => cases e1
  have clwa : cl ≠ wa := ne_of_none hc8 hwa0
  have rawa : ra ≠ wa := ne_of_none hra8 hwa0
  have st10 : Stt W.c_Store W.c_Space W.PT_Store_close_up H10 sp d wa X A O O rs hs2 := ⟨S10, ⟨d10, by rw [hO10]; exact L8.mono f910, by rw [ews]; exact f10.g0 hwa, by rw [enums]; exact nums_nd _, hlv⟩, fun o => Iff.rfl, by omega, fun c hc => by
    simp only [List.mem_cons] at hc
    rcases hc with e | e | e
    · rw [e]; exact some9 _ _ (f9.g0 d8)
    · rw [e]; exact some9 _ _ hwa
    · obtain ⟨r, e⟩ := someA c e
      exact some9 _ _ (f9.g0 e), hAn, waA⟩
  have hc10 := f910.g0 hc8
  have hra10 := f910.g0 hra8
  have clX : cl ∉ X := some9 _ _ (f9.g0 hc8)
  have raX : ra ∉ X := some9 _ _ (f9.g0 hra8)
  have cld : cl ≠ d := ne_of hc5 d5 (by intro z; cases z)
  have rad : ra ≠ d := ne_of hra d5 (by intro z; cases z)
  one_sign
  refine ⟨sp, d, wa, 0, X, A, O, O, rs, hs2, rfl, st10.S, st10.R, st10.perm, by have := st10.len; omega, fun H11 f11 => ?_⟩
  have hc11 := f11.g0 hc10
  one_sign
  refine ⟨_, _, rfl, ?_⟩
  rw [List.length_map]
  generalize hM : min 14 ns2.length = M
  have hMi : (if (14 : Int) < (ns2.length : Int) then (14 : Int) else (ns2.length : Int)) = (M : Int) := by split <;> omega
  rw [hMi]
  one_sign
  refine z_rng2 (M - 3) (by omega) ⟨by omega, by omega, by omega, by omega⟩ ?_
  refine for_range (lo := 3) (n := M - 3) (fun i σ H' => ∃ (v6 : Option V) (X A' : List Addr) (O OL : List Ob) (rs : List Int), σ = [some (.ref a), some (.ref cl), none, some (.int x), some (.ref d), some (.ref ra), v6, some (.ref wa), some (.ref sp)] ∧ Stt W.c_Store W.c_Space W.PT_Store_close_up H' sp d wa X A' O OL rs hs2 ∧ cl ∉ X ∧ ra ∉ X ∧ (∀ b ∈ A', b ∈ A) ∧ H' cl = some (.lst (ns2.map V.int)) ∧ H' ra = some (.lst (A.map V.ref)))
    ⟨_, X, A, O, O, rs, rfl, st10.keep f11, clX, raX, fun b hb => hb, hc11, f11.g0 hra10⟩ (fun i σ H12 hi hI => ?_) (fun σ H12 hI => ?_)
  · obtain ⟨v6, X, A', O, OL, rs, rfl, st, clX, raX, hA', hc12, hra12⟩ := hI
    obtain ⟨c, hc⟩ : ∃ c, ns2[3 + i]? = some c := ⟨_, List.getElem?_eq_getElem (by omega)⟩
    rw [show (3 : Int) + (i : Int) = ((3 + i : Nat) : Int) by omega]
    one_sign
    rw [List.length_map]
    refine z_ixL hc12 (atI_nat (int_at hc)) ?_
    one_sign
    refine ⟨_, _, rfl, by omega, by omega, fun y hy => ?_⟩
    one_sign
    refine ⟨sp, d, wa, X, A', O, OL, rs, hs2, _, y, rfl, by omega, by omega, st, fun H13 X' AO' O' OL' rs' st' hX hA f13 => ?_⟩
    have out : ∀ b, b ∉ X → b ≠ d → b ≠ wa → b ∉ A → b ∉ X ++ d :: wa :: A' := fun b n1 n2 n3 n4 hm => by
      rcases List.mem_append.mp hm with h | h
      · exact n1 h
      · simp only [List.mem_cons] at h
        rcases h with e | e | e
        · exact n2 e
        · exact n3 e
        · exact n4 (hA' b e)
    have hc13 := f13 _ _ hc12 (out cl clX cld clwa clA) (by intro _ z; cases z)
    have hra13 := f13 _ _ hra12 (out ra raX rad rawa raA) (by intro _ z; cases z)
    have clX' : cl ∉ X' := fun h => by
      rcases hX cl h with h | h
      · exact clX h
      · rw [hc12] at h; cases h
    have raX' : ra ∉ X' := fun h => by
      rcases hX ra h with h | h
      · exact raX h
      · rw [hra12] at h; cases h
    one_sign
    refine ⟨sp, d, wa, _, X', AO', O', OL', rs', hs2, rfl, st'.S, st'.R, st'.perm, by have := st'.len; omega, fun H14 f14 => ?_⟩
    one_sign
    exact ⟨_, X', AO', O', OL', rs', rfl, st'.keep f14, clX', raX', fun b hb => hA' b (hA b hb), f14.g0 hc13, f14.g0 hra13⟩
  · obtain ⟨v6, X, A', O, OL, rs, rfl, st, clX, raX, hA', hc12, hra12⟩ := hI
    one_sign
    exact ⟨sp, d, wa, X, A', O, OL, rs, hs2, rfl, st, fun H' _ => k H'⟩
end

end LX
namespace LX
open PySem PySem.Spec PyProof.Rows L2 NdefX

theorem all_mk {l : PySem.W.OpenLaw} {w : World} {K : PySem.W.Frag} {mg : Str → Option Value} {fa : Addr} {h : Heap} (W : Wd l.prog K mg) (hfa : mg "law" = some (.ref fa)) (KX : K.In h) (hP : h.get? W.PT_Store_close_up = some { cls := .none, data := .fields #[] }) :
    LamX.LawAtS l w K CX0 9 63 "_law_script" mg fa h := by
  have e := hfa.symm.trans W.g_law
  cases e
  obtain ⟨oc, od, kV, doc, pm, an, cdv, ct, osl, e, _, _⟩ := W.F_law.ex
  refine ⟨W.fd_law, [(W.cA_Store_close_up, W.PT_Store_close_up)], sp_law66 K W.PT_Store_close_up, fun p hp => ?_, fun p hp => ?_, fun p hp => ?_, fun s v => by rw [e]; exact .of_eq rfl, fun H a ns hl _ hT hS => ⟨a, ns, rfl, hS, hl, LamX.TabS.nil (hT _ (List.mem_singleton.mpr rfl)), fun _ => rfl⟩, fun base _ _ hTB => ok_law ⟨W, hTB _ (List.mem_singleton.mpr rfl)⟩⟩
  · cases List.mem_singleton.mp hp; exact hP
  · cases List.mem_singleton.mp hp; exact W.np_Store_close_up
  · cases List.mem_singleton.mp hp; exact PySem.W.codeHd_of_K KX W.hd_Store_close_up
theorem walk {l : PySem.W.OpenLaw} {q : Program} {loose : List Str} {XP : (Str → Option Value) → Heap → Prop} {YP : World → Heap → Prop} {d : DefRec} {K : Params → PySem.W.Frag} (hn : l.most = some 63) (hdf : d.params.defaults = [])
    (hY : ∀ (w : World) (h : Heap), YP w h → (K w.params).In h)
    (F : ∀ (w : World) (mg : Str → Option Value) (fa : Addr) (h : Heap), YP w h → (K w.params).In h → h.Ns mainGlobals mg → mg d.name = some (.ref fa) → LamX.LawAtS l w (K w.params) CX0 9 63 "_law_script" mg fa h) :
    PySem.W.WalkO q loose XP YP l.row.toRowW d [] (fun f vs => PySem.call f vs) :=
  LamX.walk_ofTs (n := 63) (k := 9) (x := "_law_script") (CX := fun _ => CX0) hn (by decide) hdf ⟨rfl, by decide, by decide⟩ hY F fun _ _ _ _ _ z => z

end LX

open PySem PySem.W PyProof.Rows
set_option maxRecDepth 100000 in
set_option maxHeartbeats 0 in
theorem PySem.Challenge.cw_saggar_k66_whole_owners_holds : PySem.Challenge.rw_saggar_k66_whole_owners.Holds := by
  w_on; o_law; k_head; (case hw => w_witness2)
  k_fill
  refine LX.walk (l := PySem.Challenge.rw_saggar_k66_whole_owners) rfl rfl (fun w h Y => PySem.W.km_in_of Y) ?F
  case F =>
    intro w mg fa h Y KX G hmg
    refine' LX.all_mk (l := PySem.Challenge.rw_saggar_k66_whole_owners) (LX.mkW KX G ?z_bool ?z_dict ?z_int ?z_isinstance ?z_len ?z_list ?z_min ?z_range ?z_reversed ?z_sorted ?z_sum ?c_NIL ?c_HEADER ?c_ROOTS ?cl_Store ?pg_Store ?hd_Store ?po_Store ?sa_Store ?mk_Store ?kp_Store ?na_Store_room ?na_Store_entries ?na_Store_words ?na_Store__places ?na_Store__least ?cl_Space ?pg_Space ?hd_Space ?po_Space ?sa_Space ?mk_Space ?kp_Space ?na_Space_store ?na_Space_pressure ?na_Space_always ?na_Space_allocations ?na_Space_collections ?na_Space__roots ?na_Space__held ?na_Space__saved ?a_is_ref ?l_is_ref ?c_is_ref ?k_is_ref ?a_ref_of ?l_ref_of ?c_ref_of ?k_ref_of ?a_reached ?l_reached ?c_reached ?k_reached ?a_words_of ?l_words_of ?c_words_of ?k_words_of ?a_collect ?l_collect ?c_collect ?k_collect ?a_object_of ?l_object_of ?c_object_of ?k_object_of ?a_row_of ?l_row_of ?c_row_of ?k_row_of ?a_paths ?l_paths ?c_paths ?k_paths ?a_links_into ?l_links_into ?c_links_into ?k_links_into ?a_meeting ?l_meeting ?c_meeting ?k_meeting ?a_places_above ?l_places_above ?c_places_above ?k_places_above ?a_owners ?l_owners ?c_owners ?k_owners ?a_retained_words ?l_retained_words ?c_retained_words ?k_retained_words ?a_Store___init__ ?l_Store___init__ ?c_Store___init__ ?k_Store___init__ ?fn_Store___init__ ?a_Store_exists ?l_Store_exists ?c_Store_exists ?k_Store_exists ?fn_Store_exists ?a_Store_numbers ?l_Store_numbers ?c_Store_numbers ?k_Store_numbers ?fn_Store_numbers ?a_Store_free_number ?l_Store_free_number ?c_Store_free_number ?k_Store_free_number ?fn_Store_free_number ?a_Store_allocate ?l_Store_allocate ?c_Store_allocate ?k_Store_allocate ?fn_Store_allocate ?a_Store_size ?l_Store_size ?c_Store_size ?k_Store_size ?fn_Store_size ?a_Store_kind ?l_Store_kind ?c_Store_kind ?k_Store_kind ?fn_Store_kind ?a_Store_set_kind ?l_Store_set_kind ?c_Store_set_kind ?k_Store_set_kind ?fn_Store_set_kind ?a_Store_put ?l_Store_put ?c_Store_put ?k_Store_put ?fn_Store_put ?a_Store_slots ?l_Store_slots ?c_Store_slots ?k_Store_slots ?fn_Store_slots ?a_Store_drop ?l_Store_drop ?c_Store_drop ?k_Store_drop ?fn_Store_drop ?a_Store_close_up ?l_Store_close_up ?c_Store_close_up ?k_Store_close_up ?x1_Store_close_up ?x2_Store_close_up ?x3_Store_close_up ?x4_Store_close_up ?fn_Store_close_up ?a_Store_exchange ?l_Store_exchange ?c_Store_exchange ?k_Store_exchange ?fn_Store_exchange ?a_Space___init__ ?l_Space___init__ ?c_Space___init__ ?k_Space___init__ ?fn_Space___init__ ?a_Space_set_root ?l_Space_set_root ?c_Space_set_root ?k_Space_set_root ?fn_Space_set_root ?a_Space_hold ?l_Space_hold ?c_Space_hold ?k_Space_hold ?fn_Space_hold ?a_Space_all_roots ?l_Space_all_roots ?c_Space_all_roots ?k_Space_all_roots ?fn_Space_all_roots ?a_Space_collect ?l_Space_collect ?c_Space_collect ?k_Space_collect ?fn_Space_collect ?a_Space_collect_with ?l_Space_collect_with ?c_Space_collect_with ?k_Space_collect_with ?fn_Space_collect_with ?a_Space_live_words ?l_Space_live_words ?c_Space_live_words ?k_Space_live_words ?fn_Space_live_words ?a_Space_new ?l_Space_new ?c_Space_new ?k_Space_new ?fn_Space_new ?a_Space_fitted ?l_Space_fitted ?c_Space_fitted ?k_Space_fitted ?fn_Space_fitted ?a__law_number ?l__law_number ?c__law_number ?k__law_number ?a__law_word ?l__law_word ?c__law_word ?k__law_word ?a__law_is ?l__law_is ?c__law_is ?k__law_is ?a__law_same ?l__law_same ?c__law_same ?k__law_same ?a__law_sizes ?l__law_sizes ?c__law_sizes ?k__law_sizes ?a__law_rows ?l__law_rows ?c__law_rows ?k__law_rows ?a__law_roots ?l__law_roots ?c__law_roots ?k__law_roots ?a__law_space ?l__law_space ?c__law_space ?k__law_space ?a__law_reached ?l__law_reached ?c__law_reached ?k__law_reached ?a__law_above ?l__law_above ?c__law_above ?k__law_above ?a__law_owner ?l__law_owner ?c__law_owner ?k__law_owner ?a__law_told ?l__law_told ?c__law_told ?k__law_told ?a__law_marks ?l__law_marks ?c__law_marks ?k__law_marks ?a__law_agrees ?l__law_agrees ?c__law_agrees ?k__law_agrees ?a__law_collected ?l__law_collected ?c__law_collected ?k__law_collected ?a__law_changed ?l__law_changed ?c__law_changed ?k__law_changed ?a__law_kept ?l__law_kept ?c__law_kept ?k__law_kept ?a__law_chain ?l__law_chain ?c__law_chain ?k__law_chain ?a_law ?l_law ?c_law ?k_law ?al_collect_collecting) hmg KX ?hP
    (case z_bool => first | k_is | ks_is | rfl | decide +kernel)
    (case z_dict => first | k_is | ks_is | rfl | decide +kernel)
    (case z_int => first | k_is | ks_is | rfl | decide +kernel)
    (case z_isinstance => first | k_is | ks_is | rfl | decide +kernel)
    (case z_len => first | k_is | ks_is | rfl | decide +kernel)
    (case z_list => first | k_is | ks_is | rfl | decide +kernel)
    (case z_min => first | k_is | ks_is | rfl | decide +kernel)
    (case z_range => first | k_is | ks_is | rfl | decide +kernel)
    (case z_reversed => first | k_is | ks_is | rfl | decide +kernel)
    (case z_sorted => first | k_is | ks_is | rfl | decide +kernel)
    (case z_sum => first | k_is | ks_is | rfl | decide +kernel)
    (case c_NIL => first | k_is | ks_is | rfl | decide +kernel)
    (case c_HEADER => first | k_is | ks_is | rfl | decide +kernel)
    (case c_ROOTS => first | k_is | ks_is | rfl | decide +kernel)
    (case cl_Store => first | k_is | ks_is | rfl | decide +kernel)
    (case pg_Store => first | k_is | ks_is | rfl | decide +kernel)
    (case hd_Store => first | k_is | ks_is | rfl | decide +kernel)
    (case po_Store => first | k_is | ks_is | rfl | decide +kernel)
    (case sa_Store => first | k_is | ks_is | rfl | decide +kernel)
    (case mk_Store => first | k_is | ks_is | rfl | decide +kernel)
    (case kp_Store => first | k_is | ks_is | rfl | decide +kernel)
    (case na_Store_room => first | k_is | ks_is | rfl | decide +kernel)
    (case na_Store_entries => first | k_is | ks_is | rfl | decide +kernel)
    (case na_Store_words => first | k_is | ks_is | rfl | decide +kernel)
    (case na_Store__places => first | k_is | ks_is | rfl | decide +kernel)
    (case na_Store__least => first | k_is | ks_is | rfl | decide +kernel)
    (case cl_Space => first | k_is | ks_is | rfl | decide +kernel)
    (case pg_Space => first | k_is | ks_is | rfl | decide +kernel)
    (case hd_Space => first | k_is | ks_is | rfl | decide +kernel)
    (case po_Space => first | k_is | ks_is | rfl | decide +kernel)
    (case sa_Space => first | k_is | ks_is | rfl | decide +kernel)
    (case mk_Space => first | k_is | ks_is | rfl | decide +kernel)
    (case kp_Space => first | k_is | ks_is | rfl | decide +kernel)
    (case na_Space_store => first | k_is | ks_is | rfl | decide +kernel)
    (case na_Space_pressure => first | k_is | ks_is | rfl | decide +kernel)
    (case na_Space_always => first | k_is | ks_is | rfl | decide +kernel)
    (case na_Space_allocations => first | k_is | ks_is | rfl | decide +kernel)
    (case na_Space_collections => first | k_is | ks_is | rfl | decide +kernel)
    (case na_Space__roots => first | k_is | ks_is | rfl | decide +kernel)
    (case na_Space__held => first | k_is | ks_is | rfl | decide +kernel)
    (case na_Space__saved => first | k_is | ks_is | rfl | decide +kernel)
    (case a_is_ref => first | k_is | ks_is | rfl | decide +kernel)
    (case l_is_ref => first | k_is | ks_is | rfl | decide +kernel)
    (case c_is_ref => first | k_is | ks_is | rfl | decide +kernel)
    (case k_is_ref => first | k_is | ks_is | rfl | decide +kernel)
    (case a_ref_of => first | k_is | ks_is | rfl | decide +kernel)
    (case l_ref_of => first | k_is | ks_is | rfl | decide +kernel)
    (case c_ref_of => first | k_is | ks_is | rfl | decide +kernel)
    (case k_ref_of => first | k_is | ks_is | rfl | decide +kernel)
    (case a_reached => first | k_is | ks_is | rfl | decide +kernel)
    (case l_reached => first | k_is | ks_is | rfl | decide +kernel)
    (case c_reached => first | k_is | ks_is | rfl | decide +kernel)
    (case k_reached => first | k_is | ks_is | rfl | decide +kernel)
    (case a_words_of => first | k_is | ks_is | rfl | decide +kernel)
    (case l_words_of => first | k_is | ks_is | rfl | decide +kernel)
    (case c_words_of => first | k_is | ks_is | rfl | decide +kernel)
    (case k_words_of => first | k_is | ks_is | rfl | decide +kernel)
    (case a_collect => first | k_is | ks_is | rfl | decide +kernel)
    (case l_collect => first | k_is | ks_is | rfl | decide +kernel)
    (case c_collect => first | k_is | ks_is | rfl | decide +kernel)
    (case k_collect => first | k_is | ks_is | rfl | decide +kernel)
    (case a_object_of => first | k_is | ks_is | rfl | decide +kernel)
    (case l_object_of => first | k_is | ks_is | rfl | decide +kernel)
    (case c_object_of => first | k_is | ks_is | rfl | decide +kernel)
    (case k_object_of => first | k_is | ks_is | rfl | decide +kernel)
    (case a_row_of => first | k_is | ks_is | rfl | decide +kernel)
    (case l_row_of => first | k_is | ks_is | rfl | decide +kernel)
    (case c_row_of => first | k_is | ks_is | rfl | decide +kernel)
    (case k_row_of => first | k_is | ks_is | rfl | decide +kernel)
    (case a_paths => first | k_is | ks_is | rfl | decide +kernel)
    (case l_paths => first | k_is | ks_is | rfl | decide +kernel)
    (case c_paths => first | k_is | ks_is | rfl | decide +kernel)
    (case k_paths => first | k_is | ks_is | rfl | decide +kernel)
    (case a_links_into => first | k_is | ks_is | rfl | decide +kernel)
    (case l_links_into => first | k_is | ks_is | rfl | decide +kernel)
    (case c_links_into => first | k_is | ks_is | rfl | decide +kernel)
    (case k_links_into => first | k_is | ks_is | rfl | decide +kernel)
    (case a_meeting => first | k_is | ks_is | rfl | decide +kernel)
    (case l_meeting => first | k_is | ks_is | rfl | decide +kernel)
    (case c_meeting => first | k_is | ks_is | rfl | decide +kernel)
    (case k_meeting => first | k_is | ks_is | rfl | decide +kernel)
    (case a_places_above => first | k_is | ks_is | rfl | decide +kernel)
    (case l_places_above => first | k_is | ks_is | rfl | decide +kernel)
    (case c_places_above => first | k_is | ks_is | rfl | decide +kernel)
    (case k_places_above => first | k_is | ks_is | rfl | decide +kernel)
    (case a_owners => first | k_is | ks_is | rfl | decide +kernel)
    (case l_owners => first | k_is | ks_is | rfl | decide +kernel)
    (case c_owners => first | k_is | ks_is | rfl | decide +kernel)
    (case k_owners => first | k_is | ks_is | rfl | decide +kernel)
    (case a_retained_words => first | k_is | ks_is | rfl | decide +kernel)
    (case l_retained_words => first | k_is | ks_is | rfl | decide +kernel)
    (case c_retained_words => first | k_is | ks_is | rfl | decide +kernel)
    (case k_retained_words => first | k_is | ks_is | rfl | decide +kernel)
    (case a_Store___init__ => first | k_is | ks_is | rfl | decide +kernel)
    (case l_Store___init__ => first | k_is | ks_is | rfl | decide +kernel)
    (case c_Store___init__ => first | k_is | ks_is | rfl | decide +kernel)
    (case k_Store___init__ => first | k_is | ks_is | rfl | decide +kernel)
    (case fn_Store___init__ => first | k_is | ks_is | rfl | decide +kernel)
    (case a_Store_exists => first | k_is | ks_is | rfl | decide +kernel)
    (case l_Store_exists => first | k_is | ks_is | rfl | decide +kernel)
    (case c_Store_exists => first | k_is | ks_is | rfl | decide +kernel)
    (case k_Store_exists => first | k_is | ks_is | rfl | decide +kernel)
    (case fn_Store_exists => first | k_is | ks_is | rfl | decide +kernel)
    (case a_Store_numbers => first | k_is | ks_is | rfl | decide +kernel)
    (case l_Store_numbers => first | k_is | ks_is | rfl | decide +kernel)
    (case c_Store_numbers => first | k_is | ks_is | rfl | decide +kernel)
    (case k_Store_numbers => first | k_is | ks_is | rfl | decide +kernel)
    (case fn_Store_numbers => first | k_is | ks_is | rfl | decide +kernel)
    (case a_Store_free_number => first | k_is | ks_is | rfl | decide +kernel)
    (case l_Store_free_number => first | k_is | ks_is | rfl | decide +kernel)
    (case c_Store_free_number => first | k_is | ks_is | rfl | decide +kernel)
    (case k_Store_free_number => first | k_is | ks_is | rfl | decide +kernel)
    (case fn_Store_free_number => first | k_is | ks_is | rfl | decide +kernel)
    (case a_Store_allocate => first | k_is | ks_is | rfl | decide +kernel)
    (case l_Store_allocate => first | k_is | ks_is | rfl | decide +kernel)
    (case c_Store_allocate => first | k_is | ks_is | rfl | decide +kernel)
    (case k_Store_allocate => first | k_is | ks_is | rfl | decide +kernel)
    (case fn_Store_allocate => first | k_is | ks_is | rfl | decide +kernel)
    (case a_Store_size => first | k_is | ks_is | rfl | decide +kernel)
    (case l_Store_size => first | k_is | ks_is | rfl | decide +kernel)
    (case c_Store_size => first | k_is | ks_is | rfl | decide +kernel)
    (case k_Store_size => first | k_is | ks_is | rfl | decide +kernel)
    (case fn_Store_size => first | k_is | ks_is | rfl | decide +kernel)
    (case a_Store_kind => first | k_is | ks_is | rfl | decide +kernel)
    (case l_Store_kind => first | k_is | ks_is | rfl | decide +kernel)
    (case c_Store_kind => first | k_is | ks_is | rfl | decide +kernel)
    (case k_Store_kind => first | k_is | ks_is | rfl | decide +kernel)
    (case fn_Store_kind => first | k_is | ks_is | rfl | decide +kernel)
    (case a_Store_set_kind => first | k_is | ks_is | rfl | decide +kernel)
    (case l_Store_set_kind => first | k_is | ks_is | rfl | decide +kernel)
    (case c_Store_set_kind => first | k_is | ks_is | rfl | decide +kernel)
    (case k_Store_set_kind => first | k_is | ks_is | rfl | decide +kernel)
    (case fn_Store_set_kind => first | k_is | ks_is | rfl | decide +kernel)
    (case a_Store_put => first | k_is | ks_is | rfl | decide +kernel)
    (case l_Store_put => first | k_is | ks_is | rfl | decide +kernel)
    (case c_Store_put => first | k_is | ks_is | rfl | decide +kernel)
    (case k_Store_put => first | k_is | ks_is | rfl | decide +kernel)
    (case fn_Store_put => first | k_is | ks_is | rfl | decide +kernel)
    (case a_Store_slots => first | k_is | ks_is | rfl | decide +kernel)
    (case l_Store_slots => first | k_is | ks_is | rfl | decide +kernel)
    (case c_Store_slots => first | k_is | ks_is | rfl | decide +kernel)
    (case k_Store_slots => first | k_is | ks_is | rfl | decide +kernel)
    (case fn_Store_slots => first | k_is | ks_is | rfl | decide +kernel)
    (case a_Store_drop => first | k_is | ks_is | rfl | decide +kernel)
    (case l_Store_drop => first | k_is | ks_is | rfl | decide +kernel)
    (case c_Store_drop => first | k_is | ks_is | rfl | decide +kernel)
    (case k_Store_drop => first | k_is | ks_is | rfl | decide +kernel)
    (case fn_Store_drop => first | k_is | ks_is | rfl | decide +kernel)
    (case a_Store_close_up => first | k_is | ks_is | rfl | decide +kernel)
    (case l_Store_close_up => first | k_is | ks_is | rfl | decide +kernel)
    (case c_Store_close_up => first | k_is | ks_is | rfl | decide +kernel)
    (case k_Store_close_up => first | k_is | ks_is | rfl | decide +kernel)
    (case x1_Store_close_up => first | k_is | ks_is | rfl | decide +kernel)
    (case x2_Store_close_up => first | k_is | ks_is | rfl | decide +kernel)
    (case x3_Store_close_up => first | k_is | ks_is | rfl | decide +kernel)
    (case x4_Store_close_up => first | k_is | ks_is | rfl | decide +kernel)
    (case fn_Store_close_up => first | k_is | ks_is | rfl | decide +kernel)
    (case a_Store_exchange => first | k_is | ks_is | rfl | decide +kernel)
    (case l_Store_exchange => first | k_is | ks_is | rfl | decide +kernel)
    (case c_Store_exchange => first | k_is | ks_is | rfl | decide +kernel)
    (case k_Store_exchange => first | k_is | ks_is | rfl | decide +kernel)
    (case fn_Store_exchange => first | k_is | ks_is | rfl | decide +kernel)
    (case a_Space___init__ => first | k_is | ks_is | rfl | decide +kernel)
    (case l_Space___init__ => first | k_is | ks_is | rfl | decide +kernel)
    (case c_Space___init__ => first | k_is | ks_is | rfl | decide +kernel)
    (case k_Space___init__ => first | k_is | ks_is | rfl | decide +kernel)
    (case fn_Space___init__ => first | k_is | ks_is | rfl | decide +kernel)
    (case a_Space_set_root => first | k_is | ks_is | rfl | decide +kernel)
    (case l_Space_set_root => first | k_is | ks_is | rfl | decide +kernel)
    (case c_Space_set_root => first | k_is | ks_is | rfl | decide +kernel)
    (case k_Space_set_root => first | k_is | ks_is | rfl | decide +kernel)
    (case fn_Space_set_root => first | k_is | ks_is | rfl | decide +kernel)
    (case a_Space_hold => first | k_is | ks_is | rfl | decide +kernel)
    (case l_Space_hold => first | k_is | ks_is | rfl | decide +kernel)
    (case c_Space_hold => first | k_is | ks_is | rfl | decide +kernel)
    (case k_Space_hold => first | k_is | ks_is | rfl | decide +kernel)
    (case fn_Space_hold => first | k_is | ks_is | rfl | decide +kernel)
    (case a_Space_all_roots => first | k_is | ks_is | rfl | decide +kernel)
    (case l_Space_all_roots => first | k_is | ks_is | rfl | decide +kernel)
    (case c_Space_all_roots => first | k_is | ks_is | rfl | decide +kernel)
    (case k_Space_all_roots => first | k_is | ks_is | rfl | decide +kernel)
    (case fn_Space_all_roots => first | k_is | ks_is | rfl | decide +kernel)
    (case a_Space_collect => first | k_is | ks_is | rfl | decide +kernel)
    (case l_Space_collect => first | k_is | ks_is | rfl | decide +kernel)
    (case c_Space_collect => first | k_is | ks_is | rfl | decide +kernel)
    (case k_Space_collect => first | k_is | ks_is | rfl | decide +kernel)
    (case fn_Space_collect => first | k_is | ks_is | rfl | decide +kernel)
    (case a_Space_collect_with => first | k_is | ks_is | rfl | decide +kernel)
    (case l_Space_collect_with => first | k_is | ks_is | rfl | decide +kernel)
    (case c_Space_collect_with => first | k_is | ks_is | rfl | decide +kernel)
    (case k_Space_collect_with => first | k_is | ks_is | rfl | decide +kernel)
    (case fn_Space_collect_with => first | k_is | ks_is | rfl | decide +kernel)
    (case a_Space_live_words => first | k_is | ks_is | rfl | decide +kernel)
    (case l_Space_live_words => first | k_is | ks_is | rfl | decide +kernel)
    (case c_Space_live_words => first | k_is | ks_is | rfl | decide +kernel)
    (case k_Space_live_words => first | k_is | ks_is | rfl | decide +kernel)
    (case fn_Space_live_words => first | k_is | ks_is | rfl | decide +kernel)
    (case a_Space_new => first | k_is | ks_is | rfl | decide +kernel)
    (case l_Space_new => first | k_is | ks_is | rfl | decide +kernel)
    (case c_Space_new => first | k_is | ks_is | rfl | decide +kernel)
    (case k_Space_new => first | k_is | ks_is | rfl | decide +kernel)
    (case fn_Space_new => first | k_is | ks_is | rfl | decide +kernel)
    (case a_Space_fitted => first | k_is | ks_is | rfl | decide +kernel)
    (case l_Space_fitted => first | k_is | ks_is | rfl | decide +kernel)
    (case c_Space_fitted => first | k_is | ks_is | rfl | decide +kernel)
    (case k_Space_fitted => first | k_is | ks_is | rfl | decide +kernel)
    (case fn_Space_fitted => first | k_is | ks_is | rfl | decide +kernel)
    (case a__law_number => first | k_is | ks_is | rfl | decide +kernel)
    (case l__law_number => first | k_is | ks_is | rfl | decide +kernel)
    (case c__law_number => first | k_is | ks_is | rfl | decide +kernel)
    (case k__law_number => first | k_is | ks_is | rfl | decide +kernel)
    (case a__law_word => first | k_is | ks_is | rfl | decide +kernel)
    (case l__law_word => first | k_is | ks_is | rfl | decide +kernel)
    (case c__law_word => first | k_is | ks_is | rfl | decide +kernel)
    (case k__law_word => first | k_is | ks_is | rfl | decide +kernel)
    (case a__law_is => first | k_is | ks_is | rfl | decide +kernel)
    (case l__law_is => first | k_is | ks_is | rfl | decide +kernel)
    (case c__law_is => first | k_is | ks_is | rfl | decide +kernel)
    (case k__law_is => first | k_is | ks_is | rfl | decide +kernel)
    (case a__law_same => first | k_is | ks_is | rfl | decide +kernel)
    (case l__law_same => first | k_is | ks_is | rfl | decide +kernel)
    (case c__law_same => first | k_is | ks_is | rfl | decide +kernel)
    (case k__law_same => first | k_is | ks_is | rfl | decide +kernel)
    (case a__law_sizes => first | k_is | ks_is | rfl | decide +kernel)
    (case l__law_sizes => first | k_is | ks_is | rfl | decide +kernel)
    (case c__law_sizes => first | k_is | ks_is | rfl | decide +kernel)
    (case k__law_sizes => first | k_is | ks_is | rfl | decide +kernel)
    (case a__law_rows => first | k_is | ks_is | rfl | decide +kernel)
    (case l__law_rows => first | k_is | ks_is | rfl | decide +kernel)
    (case c__law_rows => first | k_is | ks_is | rfl | decide +kernel)
    (case k__law_rows => first | k_is | ks_is | rfl | decide +kernel)
    (case a__law_roots => first | k_is | ks_is | rfl | decide +kernel)
    (case l__law_roots => first | k_is | ks_is | rfl | decide +kernel)
    (case c__law_roots => first | k_is | ks_is | rfl | decide +kernel)
    (case k__law_roots => first | k_is | ks_is | rfl | decide +kernel)
    (case a__law_space => first | k_is | ks_is | rfl | decide +kernel)
    (case l__law_space => first | k_is | ks_is | rfl | decide +kernel)
    (case c__law_space => first | k_is | ks_is | rfl | decide +kernel)
    (case k__law_space => first | k_is | ks_is | rfl | decide +kernel)
    (case a__law_reached => first | k_is | ks_is | rfl | decide +kernel)
    (case l__law_reached => first | k_is | ks_is | rfl | decide +kernel)
    (case c__law_reached => first | k_is | ks_is | rfl | decide +kernel)
    (case k__law_reached => first | k_is | ks_is | rfl | decide +kernel)
    (case a__law_above => first | k_is | ks_is | rfl | decide +kernel)
    (case l__law_above => first | k_is | ks_is | rfl | decide +kernel)
    (case c__law_above => first | k_is | ks_is | rfl | decide +kernel)
    (case k__law_above => first | k_is | ks_is | rfl | decide +kernel)
    (case a__law_owner => first | k_is | ks_is | rfl | decide +kernel)
    (case l__law_owner => first | k_is | ks_is | rfl | decide +kernel)
    (case c__law_owner => first | k_is | ks_is | rfl | decide +kernel)
    (case k__law_owner => first | k_is | ks_is | rfl | decide +kernel)
    (case a__law_told => first | k_is | ks_is | rfl | decide +kernel)
    (case l__law_told => first | k_is | ks_is | rfl | decide +kernel)
    (case c__law_told => first | k_is | ks_is | rfl | decide +kernel)
    (case k__law_told => first | k_is | ks_is | rfl | decide +kernel)
    (case a__law_marks => first | k_is | ks_is | rfl | decide +kernel)
    (case l__law_marks => first | k_is | ks_is | rfl | decide +kernel)
    (case c__law_marks => first | k_is | ks_is | rfl | decide +kernel)
    (case k__law_marks => first | k_is | ks_is | rfl | decide +kernel)
    (case a__law_agrees => first | k_is | ks_is | rfl | decide +kernel)
    (case l__law_agrees => first | k_is | ks_is | rfl | decide +kernel)
    (case c__law_agrees => first | k_is | ks_is | rfl | decide +kernel)
    (case k__law_agrees => first | k_is | ks_is | rfl | decide +kernel)
    (case a__law_collected => first | k_is | ks_is | rfl | decide +kernel)
    (case l__law_collected => first | k_is | ks_is | rfl | decide +kernel)
    (case c__law_collected => first | k_is | ks_is | rfl | decide +kernel)
    (case k__law_collected => first | k_is | ks_is | rfl | decide +kernel)
    (case a__law_changed => first | k_is | ks_is | rfl | decide +kernel)
    (case l__law_changed => first | k_is | ks_is | rfl | decide +kernel)
    (case c__law_changed => first | k_is | ks_is | rfl | decide +kernel)
    (case k__law_changed => first | k_is | ks_is | rfl | decide +kernel)
    (case a__law_kept => first | k_is | ks_is | rfl | decide +kernel)
    (case l__law_kept => first | k_is | ks_is | rfl | decide +kernel)
    (case c__law_kept => first | k_is | ks_is | rfl | decide +kernel)
    (case k__law_kept => first | k_is | ks_is | rfl | decide +kernel)
    (case a__law_chain => first | k_is | ks_is | rfl | decide +kernel)
    (case l__law_chain => first | k_is | ks_is | rfl | decide +kernel)
    (case c__law_chain => first | k_is | ks_is | rfl | decide +kernel)
    (case k__law_chain => first | k_is | ks_is | rfl | decide +kernel)
    (case a_law => first | k_is | ks_is | rfl | decide +kernel)
    (case l_law => first | k_is | ks_is | rfl | decide +kernel)
    (case c_law => first | k_is | ks_is | rfl | decide +kernel)
    (case k_law => first | k_is | ks_is | rfl | decide +kernel)
    (case al_collect_collecting => first | k_is | ks_is | rfl | decide +kernel)
    (case hP => exact PySem.W.km_tabs_of Y _ (by first | k_mem | simp))
    all_goals exact PySem.Value.none

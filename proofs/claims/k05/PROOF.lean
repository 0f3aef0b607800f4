import PyProof.Rows.All
import Wide.All
import OpenK.AllK
import Wide.FinOn
import KE.KExcSuper
import HandS.ForMost
import HandS.ForExc
import HandS.ExcInit
import HandS.Nested
import HandS.Flow
import HandS.IsInst
import HandS.Wide
import HandS.StrMore
import HandS.RaiseMore
import HandS.TupAny
import HandS.Style
import HandS.NoneIn
import HandS.Conv
import HandS.Deep
import HandS.Small
import HandS.Evl
import HandS.SortInts
import HandS.More
import HandS.Lambda
import HandS.EndTab
import KE.SortKeyHeap
import KE.SortData
import KE.KSortKey
import PySem.Challenge.RW_saggar_k05_collect_keeps_the_reached
set_option Elab.async false
set_option linter.all false
set_option maxRecDepth 100000
set_option maxHeartbeats 4000000
/-! universal rules: by the values' constructors -/
namespace LX
open PySem PySem.Spec PyProof.Rows L2
section
variable {X : Cx}
/-! ### operators -/
def rAddU (K : PySem.W.Frag) : R2 := fun x y H Q => match x, y with
  | .int i, .int j => Q (.int (i + j)) H
  | .str i, .str j => i.length + j.length ≤ sizeLine ∧ Q (.str (i ++ j)) H
  | .ref a, .ref b => rCat (.ref a) (.ref b) H Q ∨ rCatA K (.ref a) (.ref b) H Q
  | _, _ => False
theorem op_addU : OpR X (binaryOp .Add) (rAddU X.K) := by
  intro pins s σ H x y v u Q I rx ry h
  unfold rAddU at h
  split at h
  · exact op_add pins s σ H _ _ v u Q I rx ry ⟨_, _, rfl, rfl, h⟩
  · exact op_add_str pins s σ H _ _ v u Q I rx ry ⟨_, _, rfl, rfl, h.1, h.2⟩
  · rcases h with h | h
    · exact op_cat pins s σ H _ _ v u Q I rx ry h
    · exact op_catA pins s σ H _ _ v u Q I rx ry h
  · exact h.elim
def rMulU : R2 := fun x y H Q => match x, y with
  | .int i, .int j => CMul i j ∧ Q (.int (i * j)) H
  | .ref a, .int j => rRep (.ref a) (.int j) H Q
  | _, _ => False
theorem op_mulU : OpR X (binaryOp .Mult) rMulU := by
  intro pins s σ H x y v u Q I rx ry h
  unfold rMulU at h
  split at h
  · exact op_mul pins s σ H _ _ v u Q I rx ry ⟨_, _, rfl, rfl, h.1, h.2⟩
  · exact op_rep pins s σ H _ _ v u Q I rx ry h
  · exact h.elim
/-- an order by ints, by texts -/
def rOrd (f : Int → Int → Bool) (g : List Nat → List Nat → Bool) : R2 := fun x y H Q => match x, y with
  | .int i, .int j => Q (.bl (f i j)) H
  | .str i, .str j => Q (.bl (g i.cps.toList j.cps.toList)) H
  | _, _ => False
abbrev rLtU : R2 := rOrd (fun i j => decide (i < j)) (fun i j => decide (i < j))
abbrev rLeU : R2 := rOrd (fun i j => decide (i ≤ j)) (fun i j => !decide (j < i))
abbrev rGtU : R2 := rOrd (fun i j => decide (j < i)) (fun i j => decide (j < i))
abbrev rGeU : R2 := rOrd (fun i j => decide (j ≤ i)) (fun i j => !decide (i < j))
theorem op_ltU : OpR X (compareOp .Lt) rLtU := by
  intro pins s σ H x y v u Q I rx ry h
  unfold rLtU rOrd at h
  split at h
  · exact op_lt pins s σ H _ _ v u Q I rx ry ⟨_, _, rfl, rfl, h⟩
  · exact op_lt_str pins s σ H _ _ v u Q I rx ry ⟨_, _, rfl, rfl, h⟩
  · exact h.elim
theorem op_leU : OpR X (compareOp .LtE) rLeU := by
  intro pins s σ H x y v u Q I rx ry h
  unfold rLeU rOrd at h
  split at h
  · exact op_le pins s σ H _ _ v u Q I rx ry ⟨_, _, rfl, rfl, h⟩
  · exact op_le_str pins s σ H _ _ v u Q I rx ry ⟨_, _, rfl, rfl, h⟩
  · exact h.elim
theorem op_gtU : OpR X (compareOp .Gt) rGtU := by
  intro pins s σ H x y v u Q I rx ry h
  unfold rGtU rOrd at h
  split at h
  · exact op_gt pins s σ H _ _ v u Q I rx ry ⟨_, _, rfl, rfl, h⟩
  · exact op_gt_str pins s σ H _ _ v u Q I rx ry ⟨_, _, rfl, rfl, h⟩
  · exact h.elim
theorem op_geU : OpR X (compareOp .GtE) rGeU := by
  intro pins s σ H x y v u Q I rx ry h
  unfold rGeU rOrd at h
  split at h
  · exact op_ge pins s σ H _ _ v u Q I rx ry ⟨_, _, rfl, rfl, h⟩
  · exact op_ge_str pins s σ H _ _ v u Q I rx ry ⟨_, _, rfl, rfl, h⟩
  · exact h.elim
/-- ==, != : two objects (deep), else by value -/
def rEqU (K : PySem.W.Frag) (g : Bool → Bool) : R2 := fun x y H Q => match x, y with
  | .ref a, .ref b => ∃ d e, Dp K H (.ref a) d ∧ Dp K H (.ref b) e ∧ SeqAt.shaped d = true ∧ SeqAt.shaped e = true ∧ Q (.bl (g (PyData.eqv d e))) H
  | x, y => scal x y = true ∧ Q (.bl (g (decide (x = y)))) H
theorem op_eqU (hu : X.A.units + 64 < cLine) : OpR X (compareOp .Eq) (rEqU X.K id) := by
  intro pins s σ H x y v u Q I rx ry h
  unfold rEqU at h
  split at h
  · exact op_eqD hu pins s σ H _ _ v u Q I rx ry h
  · exact op_eq pins s σ H _ _ v u Q I rx ry h
theorem op_neU (hu : X.A.units + 64 < cLine) : OpR X (compareOp .NotEq) (rEqU X.K (!·)) := by
  intro pins s σ H x y v u Q I rx ry h
  unfold rEqU at h
  split at h
  · exact op_neD hu pins s σ H _ _ v u Q I rx ry h
  · exact op_ne pins s σ H _ _ v u Q I rx ry h
/-- x is None, True, False -/
def rIsU (g : Bool → Bool) : R2 := fun x y H Q => match y with
  | .non => Q (.bl (g (decide (x = .non)))) H
  | .bl b => Q (.bl (g (decide (x = .bl b)))) H
  | _ => False
theorem op_isU : OpR X (compareOp .Is) (rIsU id) := by
  intro pins s σ H x y v u Q I rx ry h
  unfold rIsU at h
  split at h
  · exact op_isN pins s σ H _ _ v u Q I rx ry ⟨rfl, h⟩
  · rename_i b
    cases (show u = Value.bool b from ry)
    by_cases e : x = .bl b
    · subst e
      cases (show v = Value.bool b from rx)
      exact wpAny_is_self rfl ⟨.bl true, H, I, rfl, by simpa using h⟩
    · refine wpAny_is_other ?_ ?_ ⟨.bl false, H, I, rfl, by simpa [e] using h⟩
      · first | rfl | (cases x <;> first | rfl | (cases rx; rfl) | (obtain ⟨t, rfl⟩ := rx; rfl))
      · intro z
        subst z
        exact e (RelV.inj rx rfl)
  · exact h.elim
theorem op_isnotU : OpR X (compareOp .IsNot) (rIsU (!·)) := by
  intro pins s σ H x y v u Q I rx ry h
  unfold rIsU at h
  split at h
  · exact op_notN pins s σ H _ _ v u Q I rx ry ⟨rfl, h⟩
  · rename_i b
    cases (show u = Value.bool b from ry)
    by_cases e : x = .bl b
    · subst e
      cases (show v = Value.bool b from rx)
      exact wpAny_isNot_self rfl ⟨.bl false, H, I, rfl, by simpa using h⟩
    · refine wpAny_isNot_other ?_ ?_ ⟨.bl true, H, I, rfl, by simpa [e] using h⟩
      · first | rfl | (cases x <;> first | rfl | (cases rx; rfl) | (obtain ⟨t, rfl⟩ := rx; rfl))
      · intro z
        subst z
        exact e (RelV.inj rx rfl)
  · exact h.elim
/-! ### subscripts, slices, in -/
def rIxU (K : PySem.W.Frag) : R2 := fun x y H Q => match x with
  | .str z => ∃ i c, y = .int i ∧ z.length ≤ sizeLine ∧ atI z.cps.toList i = some c ∧ Q (.str ⟨#[c]⟩) H
  | .ref p => (∃ xs i v, y = .int i ∧ (SqL K H p xs ∨ SqT K H p xs) ∧ atI xs i = some v ∧ Q v H) ∨ (∃ v, DGet H p y (some v) ∧ Q v H)
  | _ => False
theorem ix_U (hu : X.A.units + 1 < cLine) : IxR X (rIxU X.K) := by
  intro value slice pins s σ H x y v u Q I rx ry h hs
  unfold rIxU at h
  split at h
  · obtain ⟨i, c, rfl, h1, h2, q⟩ := h
    exact ix_str value slice pins s σ H _ _ v u Q I rx ry ⟨_, _, _, rfl, rfl, h1, h2, q⟩ hs
  · rcases h with ⟨xs, i, w', rfl, h1 | h1, h2, q⟩ | ⟨w', g, q⟩
    · exact ix_list value slice pins s σ H _ _ v u Q I rx ry ⟨_, _, _, _, rfl, rfl, h1, h2, q⟩ hs
    · exact ix_tup value slice pins s σ H _ _ v u Q I rx ry ⟨_, _, _, _, rfl, rfl, h1, h2, q⟩ hs
    · rename_i p
      obtain rfl : v = Value.ref p := rx
      exact tail_any (dict_typeIs I g) PySem.F.slot_dict_getitem.lookup (d_getItem hu I g ry fun w2 s2 I2 rw2 => ⟨w', H, I2, rw2, q⟩) hs
  · exact h.elim
def rSlU (K : PySem.W.Frag) : V → Option Int → Option Int → Hp → VK → Prop := fun x lo hi H Q => match x with
  | .str z => z.length ≤ sizeLine ∧ Q (.str (cutS z lo hi)) H
  | .ref a => rSlL K (.ref a) lo hi H Q ∨ rSlA K (.ref a) lo hi H Q
  | _ => False
theorem sl_U : SlR X (rSlU X.K) := by
  intro pins s σ H x v vl vu lo hi sl Q I rx hs pl pu h
  unfold rSlU at h
  split at h
  · exact sl_str pins s σ H _ v vl vu lo hi sl Q I rx hs pl pu ⟨_, rfl, h.1, h.2⟩
  · rcases h with h | h
    · exact sl_list pins s σ H _ v vl vu lo hi sl Q I rx hs pl pu h
    · exact sl_tupA pins s σ H _ v vl vu lo hi sl Q I rx hs pl pu h
  · exact h.elim
/-- in, not in -/
def rInU (K : PySem.W.Frag) (g : Bool → Bool) : R2 := fun x y H Q => match y with
  | .str z => (∃ c : Nat, x = .str ⟨#[c]⟩ ∧ Q (.bl (g (decide (c ∈ z.cps.toList)))) H) ∨ ∃ i, x = .str i ∧ Q (.bl (g (!(Builtin.Str.occurrences z i 0 z.length 1).isEmpty))) H
  | .ref p => (∃ xs, (SqL K H p xs ∨ SqT K H p xs) ∧ flatV x = true ∧ xs.all flatV = true ∧ Q (.bl (g (inV x xs))) H) ∨ (∃ o, DGet H p x o ∧ Q (.bl (g o.isSome)) H)
  | _ => False
theorem op_inU (hu : X.A.units + 1 < cLine) : OpR X (compareOp .In) (rInU X.K id) := by
  intro pins s σ H x y v u Q I rx ry h
  unfold rInU at h
  split at h
  · rcases h with ⟨c, rfl, q⟩ | ⟨i, rfl, q⟩
    · exact op_in_sign pins s σ H _ _ v u Q I rx ry ⟨_, _, rfl, rfl, q⟩
    · exact op_in_str pins s σ H _ _ v u Q I rx ry ⟨_, _, rfl, rfl, q⟩
  · rcases h with ⟨xs, h1, h2, h3, q⟩ | ⟨o, g, q⟩
    · exact op_in_seq pins s σ H _ _ v u Q I rx ry ⟨_, xs, rfl, h1, h2, h3, q⟩
    · rename_i p
      obtain rfl : u = Value.ref p := ry
      exact d_in hu I g rx fun s3 I3 => ⟨.bl o.isSome, H, I3, rfl, q⟩
  · exact h.elim
theorem op_ninU (hu : X.A.units + 1 < cLine) : OpR X (compareOp .NotIn) (rInU X.K (!·)) := by
  intro pins s σ H x y v u Q I rx ry h
  unfold rInU at h
  split at h
  · rcases h with ⟨c, rfl, q⟩ | ⟨i, rfl, q⟩
    · exact op_notIn_sign pins s σ H _ _ v u Q I rx ry ⟨_, _, rfl, rfl, q⟩
    · exact op_notin_str pins s σ H _ _ v u Q I rx ry ⟨_, _, rfl, rfl, q⟩
  · rcases h with ⟨xs, h1, h2, h3, q⟩ | ⟨o, g, q⟩
    · exact op_notIn_seq pins s σ H _ _ v u Q I rx ry ⟨_, xs, rfl, h1, h2, h3, q⟩
    · rename_i p
      obtain rfl : u = Value.ref p := ry
      exact d_notIn hu I g rx fun s3 I3 => ⟨.bl (!o.isSome), H, I3, rfl, q⟩
  · exact h.elim
/-! ### calls -/
def rLenU (K : PySem.W.Frag) : List V → Hp → VK → Prop := fun xs H Q => match xs with
  | [.str z] => z.length ≤ sizeLine ∧ Q (.int z.length) H
  | [.ref p] => (∃ ys, (SqL K H p ys ∨ SqT K H p ys) ∧ Q (.int ys.length) H) ∨ ∃ kvs, H p = some (.dK kvs) ∧ Q (.int kvs.length) H
  | _ => False
theorem call_lenU : CallR X (.builtin "len") (rLenU X.K) := by
  intro pins s σ H xs us Q I r h
  unfold rLenU at h
  split at h
  · exact call_len_str pins s σ H _ us Q I r ⟨_, rfl, h.1, h.2⟩
  · rcases h with ⟨ys, h1, q⟩ | ⟨kvs, h1, q⟩
    · exact call_len_seq pins s σ H _ us Q I r ⟨_, ys, rfl, h1, q⟩
    · exact call_lenD pins s σ H _ us Q I r ⟨_, kvs, rfl, h1, q⟩
  · exact h.elim
def rIntU : List V → Hp → VK → Prop := fun xs H Q => match xs with
  | [.int i] => Q (.int i) H
  | [.bl k] => Q (.int (if k then 1 else 0)) H
  | [.str a] => ∃ n, PySem.intText? a = some n ∧ a.length ≤ 640 ∧ Q (.int n) H
  | _ => False
theorem call_intU : CallR X (.type "int") rIntU := by
  intro pins s σ H xs us Q I r h
  unfold rIntU at h
  split at h
  · exact call_int1 pins s σ H _ us Q I r (.inl ⟨_, rfl, h⟩)
  · exact call_int1 pins s σ H _ us Q I r (.inr ⟨_, rfl, h⟩)
  · obtain ⟨n, h1, h2, q⟩ := h
    exact call_int_str pins s σ H _ us Q I r ⟨_, n, rfl, h1, h2, q⟩
  · exact h.elim
def rStrU : List V → Hp → VK → Prop := fun xs H Q => match xs with
  | [.int i] => i.natAbs.log2 < 1920 ∧ Q (.str (toString i)) H
  | [.str a] => Q (.str a) H
  | _ => False
theorem call_strU : CallR X (.type "str") rStrU := by
  intro pins s σ H xs us Q I r h
  unfold rStrU at h
  split at h
  · exact call_str_int pins s σ H _ us Q I r ⟨_, rfl, h.1, h.2⟩
  · exact SkE.call_str_str pins s σ H _ us Q I r ⟨_, rfl, h⟩
  · exact h.elim
/-- isinstance: a built-in type or an own class -/
def rIsU2 (K : PySem.W.Frag) : List V → Hp → VK → Prop := fun xs H Q => ∃ (x c : V) (t u : Value) (b : Bool), xs = [x, c] ∧ ClsV c u ∧ TyX K H x t ∧ PySem.W.kitOne K t u = some b ∧ Q (.bl b) H
end
theorem hu64_of {A : Around} {k : Nat} (hr : Room k A) : A.units + 64 < cLine := by have := hr.un; omega
theorem ite_eq {c d : Bool} {A B : Prop} (e : c = d) (h : if d = true then A else B) : if c = true then A else B := by rw [e]; exact h
theorem iteD {c : Prop} [Decidable c] {A B : Prop} (h1 : c → A) (h2 : ¬ c → B) : if decide c = true then A else B := by
  by_cases h : c
  · rw [decide_eq_true h]; exact iteT (h1 h)
  · rw [decide_eq_false h]; exact iteF (h2 h)
theorem iteND {c : Prop} [Decidable c] {A B : Prop} (h1 : ¬ c → A) (h2 : c → B) : if (!decide c) = true then A else B := by
  by_cases h : c
  · rw [decide_eq_true h]; exact iteF (h2 h)
  · rw [decide_eq_false h]; exact iteT (h1 h)
/-- a text by its signs -/
abbrev T (l : List Nat) : Str := ⟨l.toArray⟩
theorem T_of (z : Str) : z = T z.cps.toList := rfl
theorem T_inj {a b : List Nat} (h : T a = T b) : a = b := congrArg (fun x : Str => x.cps.toList) h
theorem T_app (a b : List Nat) : T a ++ T b = T (a ++ b) := by
  show (⟨a.toArray ++ b.toArray⟩ : Str) = ⟨(a ++ b).toArray⟩
  simp
theorem T_dec (a b : List Nat) : decide (V.str (T a) = V.str (T b)) = decide (a = b) := by
  by_cases h : a = b
  · subst h; simp
  · have : ¬ V.str (T a) = V.str (T b) := fun z => h (T_inj (V.str.inj z))
    rw [decide_eq_false this, decide_eq_false h]
theorem I_dec (a b : Int) : decide (V.int a = V.int b) = decide (a = b) := by
  by_cases h : a = b
  · subst h; simp
  · have : ¬ V.int a = V.int b := fun z => h (V.int.inj z)
    rw [decide_eq_false this, decide_eq_false h]
theorem B_dec (a b : Bool) : decide (V.bl a = V.bl b) = (a == b) := by cases a <;> cases b <;> rfl
theorem pe_strT {X : Cx} {x : Str} {l : List Nat} {j : Nat} {pos : Pos} (e : x = T l) : PE X (.Constant (.str x) j pos) (tC (.str (T l))) := by subst e; exact pe_str
theorem pv_some {X : Cx} : True := True.intro
theorem bb_len : bootBuiltins "len" = some (.builtin "len") := by first | rfl | decide +kernel
theorem bb_isinstance : bootBuiltins "isinstance" = some (.builtin "isinstance") := by first | rfl | decide +kernel
theorem bb_abs : bootBuiltins "abs" = some (.builtin "abs") := by first | rfl | decide +kernel
theorem bb_sorted : bootBuiltins "sorted" = some (.builtin "sorted") := by first | rfl | decide +kernel
theorem bb_min : bootBuiltins "min" = some (.builtin "min") := by first | rfl | decide +kernel
theorem bb_max : bootBuiltins "max" = some (.builtin "max") := by first | rfl | decide +kernel
theorem bb_sum : bootBuiltins "sum" = some (.builtin "sum") := by first | rfl | decide +kernel
theorem bb_all : bootBuiltins "all" = some (.builtin "all") := by first | rfl | decide +kernel
theorem bb_any : bootBuiltins "any" = some (.builtin "any") := by first | rfl | decide +kernel
theorem bb_repr : bootBuiltins "repr" = some (.builtin "repr") := by first | rfl | decide +kernel
theorem bb_int : bootBuiltins "int" = some (.type "int") := by first | rfl | decide +kernel
theorem bb_str : bootBuiltins "str" = some (.type "str") := by first | rfl | decide +kernel
theorem bb_bool : bootBuiltins "bool" = some (.type "bool") := by first | rfl | decide +kernel
theorem bb_list : bootBuiltins "list" = some (.type "list") := by first | rfl | decide +kernel
theorem bb_dict : bootBuiltins "dict" = some (.type "dict") := by first | rfl | decide +kernel
theorem bb_tuple : bootBuiltins "tuple" = some (.type "tuple") := by first | rfl | decide +kernel
theorem bb_set : bootBuiltins "set" = some (.type "set") := by first | rfl | decide +kernel
theorem bb_ValueError : bootBuiltins "ValueError" = some (.type "ValueError") := by first | rfl | decide +kernel
theorem pe_gi {X : Cx} {x : Str} {z : Int} {t : Tok} {pos : Pos} (hg : Gl X x) (hm : X.mg x = some (.int z t)) (hd : (x == ("__debug__" : Str)) = false := by decide) : PE X (.Name x pos) (tC (.int z)) := pe_glob hg hm ⟨_, rfl⟩ hd
theorem pe_gs {X : Cx} {x : Str} {z : Str} {t : Tok} {pos : Pos} (hg : Gl X x) (hm : X.mg x = some (.str z t)) (hd : (x == ("__debug__" : Str)) = false := by decide) : PE X (.Name x pos) (tC (.str z)) := pe_glob hg hm ⟨_, rfl⟩ hd
theorem pe_gr {X : Cx} {x : Str} {a : Addr} {pos : Pos} (hg : Gl X x) (hm : X.mg x = some (.ref a)) (hd : (x == ("__debug__" : Str)) = false := by decide) : PE X (.Name x pos) (tC (.ref a)) := pe_glob hg hm rfl hd
theorem pe_bt {X : Cx} {x : Str} {n : String} {pos : Pos} (hg : Gl X x) (hm : X.mg x = none) (hv : bootBuiltins x = some (.type n)) (hn : x ≠ "__name__" := by decide) (hd : (x == ("__debug__" : Str)) = false := by decide) : PE X (.Name x pos) (tC (.ty n)) := pe_bltn hg hm hv rfl hn hd
/-! isinstance against built-in types -/
theorem kt_int_int {K : PySem.W.Frag} : PySem.W.kitOne K (.type "int") (.type "int") = some true := kit_ty (by decide +kernel)
theorem kt_int_bool {K : PySem.W.Frag} : PySem.W.kitOne K (.type "int") (.type "bool") = some false := kit_ty (by decide +kernel)
theorem kt_int_str {K : PySem.W.Frag} : PySem.W.kitOne K (.type "int") (.type "str") = some false := kit_ty (by decide +kernel)
theorem kt_int_list {K : PySem.W.Frag} : PySem.W.kitOne K (.type "int") (.type "list") = some false := kit_ty (by decide +kernel)
theorem kt_int_tuple {K : PySem.W.Frag} : PySem.W.kitOne K (.type "int") (.type "tuple") = some false := kit_ty (by decide +kernel)
theorem kt_int_dict {K : PySem.W.Frag} : PySem.W.kitOne K (.type "int") (.type "dict") = some false := kit_ty (by decide +kernel)
theorem kt_bool_int {K : PySem.W.Frag} : PySem.W.kitOne K (.type "bool") (.type "int") = some true := kit_ty (by decide +kernel)
theorem kt_bool_bool {K : PySem.W.Frag} : PySem.W.kitOne K (.type "bool") (.type "bool") = some true := kit_ty (by decide +kernel)
theorem kt_bool_str {K : PySem.W.Frag} : PySem.W.kitOne K (.type "bool") (.type "str") = some false := kit_ty (by decide +kernel)
theorem kt_bool_list {K : PySem.W.Frag} : PySem.W.kitOne K (.type "bool") (.type "list") = some false := kit_ty (by decide +kernel)
theorem kt_bool_tuple {K : PySem.W.Frag} : PySem.W.kitOne K (.type "bool") (.type "tuple") = some false := kit_ty (by decide +kernel)
theorem kt_bool_dict {K : PySem.W.Frag} : PySem.W.kitOne K (.type "bool") (.type "dict") = some false := kit_ty (by decide +kernel)
theorem kt_str_int {K : PySem.W.Frag} : PySem.W.kitOne K (.type "str") (.type "int") = some false := kit_ty (by decide +kernel)
theorem kt_str_bool {K : PySem.W.Frag} : PySem.W.kitOne K (.type "str") (.type "bool") = some false := kit_ty (by decide +kernel)
theorem kt_str_str {K : PySem.W.Frag} : PySem.W.kitOne K (.type "str") (.type "str") = some true := kit_ty (by decide +kernel)
theorem kt_str_list {K : PySem.W.Frag} : PySem.W.kitOne K (.type "str") (.type "list") = some false := kit_ty (by decide +kernel)
theorem kt_str_tuple {K : PySem.W.Frag} : PySem.W.kitOne K (.type "str") (.type "tuple") = some false := kit_ty (by decide +kernel)
theorem kt_str_dict {K : PySem.W.Frag} : PySem.W.kitOne K (.type "str") (.type "dict") = some false := kit_ty (by decide +kernel)
theorem kt_list_int {K : PySem.W.Frag} : PySem.W.kitOne K (.type "list") (.type "int") = some false := kit_ty (by decide +kernel)
theorem kt_list_bool {K : PySem.W.Frag} : PySem.W.kitOne K (.type "list") (.type "bool") = some false := kit_ty (by decide +kernel)
theorem kt_list_str {K : PySem.W.Frag} : PySem.W.kitOne K (.type "list") (.type "str") = some false := kit_ty (by decide +kernel)
theorem kt_list_list {K : PySem.W.Frag} : PySem.W.kitOne K (.type "list") (.type "list") = some true := kit_ty (by decide +kernel)
theorem kt_list_tuple {K : PySem.W.Frag} : PySem.W.kitOne K (.type "list") (.type "tuple") = some false := kit_ty (by decide +kernel)
theorem kt_list_dict {K : PySem.W.Frag} : PySem.W.kitOne K (.type "list") (.type "dict") = some false := kit_ty (by decide +kernel)
theorem kt_tuple_int {K : PySem.W.Frag} : PySem.W.kitOne K (.type "tuple") (.type "int") = some false := kit_ty (by decide +kernel)
theorem kt_tuple_bool {K : PySem.W.Frag} : PySem.W.kitOne K (.type "tuple") (.type "bool") = some false := kit_ty (by decide +kernel)
theorem kt_tuple_str {K : PySem.W.Frag} : PySem.W.kitOne K (.type "tuple") (.type "str") = some false := kit_ty (by decide +kernel)
theorem kt_tuple_list {K : PySem.W.Frag} : PySem.W.kitOne K (.type "tuple") (.type "list") = some false := kit_ty (by decide +kernel)
theorem kt_tuple_tuple {K : PySem.W.Frag} : PySem.W.kitOne K (.type "tuple") (.type "tuple") = some true := kit_ty (by decide +kernel)
theorem kt_tuple_dict {K : PySem.W.Frag} : PySem.W.kitOne K (.type "tuple") (.type "dict") = some false := kit_ty (by decide +kernel)
theorem kt_dict_int {K : PySem.W.Frag} : PySem.W.kitOne K (.type "dict") (.type "int") = some false := kit_ty (by decide +kernel)
theorem kt_dict_bool {K : PySem.W.Frag} : PySem.W.kitOne K (.type "dict") (.type "bool") = some false := kit_ty (by decide +kernel)
theorem kt_dict_str {K : PySem.W.Frag} : PySem.W.kitOne K (.type "dict") (.type "str") = some false := kit_ty (by decide +kernel)
theorem kt_dict_list {K : PySem.W.Frag} : PySem.W.kitOne K (.type "dict") (.type "list") = some false := kit_ty (by decide +kernel)
theorem kt_dict_tuple {K : PySem.W.Frag} : PySem.W.kitOne K (.type "dict") (.type "tuple") = some false := kit_ty (by decide +kernel)
theorem kt_dict_dict {K : PySem.W.Frag} : PySem.W.kitOne K (.type "dict") (.type "dict") = some true := kit_ty (by decide +kernel)
theorem kt_NoneType_int {K : PySem.W.Frag} : PySem.W.kitOne K (.type "NoneType") (.type "int") = some false := kit_ty (by decide +kernel)
theorem kt_NoneType_bool {K : PySem.W.Frag} : PySem.W.kitOne K (.type "NoneType") (.type "bool") = some false := kit_ty (by decide +kernel)
theorem kt_NoneType_str {K : PySem.W.Frag} : PySem.W.kitOne K (.type "NoneType") (.type "str") = some false := kit_ty (by decide +kernel)
theorem kt_NoneType_list {K : PySem.W.Frag} : PySem.W.kitOne K (.type "NoneType") (.type "list") = some false := kit_ty (by decide +kernel)
theorem kt_NoneType_tuple {K : PySem.W.Frag} : PySem.W.kitOne K (.type "NoneType") (.type "tuple") = some false := kit_ty (by decide +kernel)
theorem kt_NoneType_dict {K : PySem.W.Frag} : PySem.W.kitOne K (.type "NoneType") (.type "dict") = some false := kit_ty (by decide +kernel)
end LX
/-! sorted(x) of a list of whole numbers or of a dict with such keys, any number of them -/
namespace LX
open PySem PySem.Spec PyProof.Rows L2
section
variable {X : Cx}
theorem call_sortedDA (hcalm : X.calm = true) : CallR X (.builtin "sorted") (fun xs H Q => ∃ (a : Addr) (kvs : List (Key × V)) (ks : List Int), xs = [.ref a] ∧ Rd H a (.dK kvs) ∧ kvs.map (·.1) = ks.map Sum.inl ∧
    ∀ (ys : List Int) (p : Addr), ys.Perm ks → ys.Pairwise (· ≤ ·) → H p = none → Q (.ref p) (upd H p (.lst (ys.map V.int)))) := by
  intro pins s σ H xs us Q I r q
  obtain ⟨a, kvs, ks, ex, hd, hks, q⟩ := q
  subst ex
  obtain ⟨u, eu, rx⟩ := vals1 r
  subst eu
  cases rx
  obtain ⟨z, lo, vs, rel, dd⟩ := dk_rd I.hok hd
  obtain ⟨ep, hat⟩ := dd.dictAt
  have hkeys : vs.map (·.1) = ks.map Sum.inl := rel.keys.symm.trans hks
  have hl : vs.length = ks.length := by
    have e := congrArg List.length hkeys
    rw [List.length_map, List.length_map] at e
    exact e
  have hkl : ks.length ≤ sizeLine := by
    have e := congrArg List.length hks
    rw [List.length_map, List.length_map] at e
    omega
  have h16 : vs.length ≤ sizeLine := by rw [hl]; exact hkl
  refine Calls.call_function_entry PyProof.Rows.kind_sorted PyProof.Rows.plain_sorted PyProof.Rows.entry_sorted (PyProof.Rows.args_sorted1 _) ?_
  unfold Builtin.«sorted»
  refine wpAny_bind (m := checkCount "sorted" 1 1 _) (wpAny_pure ?_)
  refine wpAny_bind (PySem.W.kdu_collect (A := X.A.in1) (PySem.W.kdl_dict (knd := mixKind X.prog X.w) (kvs := vs) (ep := ep) lo) (I.ok.hd hcalm) hat h16 fun h' tk acc hk hacc => ?_)
  have hal : acc.toList.length = ks.length := by rw [Array.length_toList, hacc.1, hl]
  have hS : IntsAre acc.toList ks := ints_each hal fun j v e => by
    obtain ⟨k, x, e1, e2⟩ := hacc.2 j v (by rw [← Array.getElem?_toList]; exact e)
    have e3 : (vs.map (·.1))[j]? = some k := by rw [List.getElem?_map, e1]; rfl
    rw [hkeys, List.getElem?_map] at e3
    cases e4 : ks[j]? with
    | none => rw [e4] at e3; cases e3
    | some y =>
      rw [e4] at e3
      have e5 : Sum.inl y = k := Option.some.inj e3
      subst e5
      rcases keyIs_shape (show keyIs (Sum.inl y) v = true from e2) with ⟨i, t, ek, ev⟩ | ⟨z, t, ek, ev⟩
      · cases ek
        exact ⟨y, t, rfl, ev⟩
      · cases ek
  have I1 : Inv X pins σ H { s with heap := h', toks := tk } := I.kept hk
  refine wpAny_bind (wpAny_newList ?_ (by rw [hal]; exact hkl))
  have hoL : (h'.push (seqObj "list" acc.toList.toArray 0)).get? h'.objs.size = some (seqObj "list" acc.toList.toArray 0) := Heap.get?_push_size _ rfl
  show wpAny _ _ _ _ _ { s with heap := h'.push (seqObj "list" acc.toList.toArray 0), toks := tk }
  refine wpAny_bind (wpAny_holding (wpAny_call_entry PyProof.Rows.slot_list_sort ⟨_, hoL, rfl⟩ PyProof.Rows.entry_list_sort
    (SrtO.list_sort_ord (s := { s with heap := h'.push (seqObj "list" acc.toList.toArray 0), toks := tk }) SrtO.swo_int hoL (by rw [hal]; exact hkl) (fun h2 => SrtO.ints_sortable hS h2) fun out h1 h2 => ⟨.none, rfl, ?_⟩) (PyProof.Rows.args_list_sort _)))
  obtain ⟨k1, k2, k3⟩ := SrtO.ints_out hS h1 h2
  obtain ⟨e', he'⟩ := PyProof.Rows.sortedHeap_at (vs := acc.toList) (out := out.toArray) hoL
  have hlen : ((out.map SrtO.iv).map V.int).length ≤ sizeLine := by
    rw [List.length_map, k2.length_eq]
    exact hkl
  refine wpAny_pure ⟨_, rfl, .ref h'.objs.size, upd H h'.objs.size (.lst ((out.map SrtO.iv).map V.int)), I1.laid (t' := tk) (fun b u e => ?_) (Nat.le_refl _)
    (show ObjOk X.prog X.w _ _ _ (.lst ((out.map SrtO.iv).map V.int)) from ⟨hlen, out, e', vals_of_ints k1, he'⟩), rfl, q _ _ k2 k3 (I1.hok.fresh (Nat.le_refl _))⟩
  have hb : b < h'.objs.size := Heap.lt_size e
  rw [PyProof.Rows.sortedHeap_old (Nat.ne_of_lt hb) (by rw [size_push']; exact Nat.lt_succ_of_lt hb)]
  exact Heap.get?_push_of_some _ e
def rSortedU (K : PySem.W.Frag) : List V → Hp → VK → Prop := fun vs H Q => ∃ (a : Addr) (ns : List Int), vs = [V.ref a] ∧ (SqL K H a (ns.map V.int) ∨ ∃ kvs : List (Key × V), Rd H a (.dK kvs) ∧ kvs.map (·.1) = ns.map Sum.inl) ∧
  ∀ (ns' : List Int) (p : Addr), ns'.Perm ns → ns'.Pairwise (· ≤ ·) → H p = none → Q (.ref p) (upd H p (.lst (ns'.map V.int)))
theorem call_sortedU (hcalm : X.calm = true) : CallR X (.builtin "sorted") (rSortedU X.K) := by
  intro pins s σ H xs us Q I r h
  obtain ⟨a, ns, rfl, h1 | ⟨kvs, h1, h2⟩, q⟩ := h
  · exact cr_sortedI pins s σ H _ us Q I r ⟨a, ns, rfl, h1, q⟩
  · exact call_sortedDA hcalm pins s σ H _ us Q I r ⟨a, kvs, ns, rfl, h1, h2, q⟩
end
end LX
/-! the rules of LBase with the law's own K, for the parts of a comprehension -/
namespace LX
open PySem PySem.Spec PyProof.Rows L2
section
variable {X : Cx} {K : PySem.W.Frag}
theorem ix_UK (e : X.K = K) (hu : X.A.units + 1 < cLine) : IxR X (rIxU K) := by subst e; exact ix_U hu
theorem op_addUK (e : X.K = K) : OpR X (binaryOp .Add) (rAddU K) := by subst e; exact op_addU
theorem op_eqUK (e : X.K = K) (hu : X.A.units + 64 < cLine) : OpR X (compareOp .Eq) (rEqU K id) := by subst e; exact op_eqU hu
theorem op_neUK (e : X.K = K) (hu : X.A.units + 64 < cLine) : OpR X (compareOp .NotEq) (rEqU K (!·)) := by subst e; exact op_neU hu
theorem op_inUK (e : X.K = K) (hu : X.A.units + 1 < cLine) : OpR X (compareOp .In) (rInU K id) := by subst e; exact op_inU hu
theorem op_ninUK (e : X.K = K) (hu : X.A.units + 1 < cLine) : OpR X (compareOp .NotIn) (rInU K (!·)) := by subst e; exact op_ninU hu
theorem sl_UK (e : X.K = K) : SlR X (rSlU K) := by subst e; exact sl_U
theorem call_lenUK (e : X.K = K) : CallR X (.builtin "len") (rLenU K) := by subst e; exact call_lenU
theorem pe_fldK {o : Expr} {f : Str} {pos : Pos} {ta : TE} (e : X.K = K) (he : PE X o ta) (hb : attributeBase o f X.env (eval o X.env) = eval o X.env) : PE X (.Attribute o f pos) (tFld K ta f) := by subst e; exact pe_fld he hb
def tTruK (K : PySem.W.Frag) (ta : TE) : TT := fun σ H Q => ta σ H fun x H' => ∃ k, TruV K x H' k ∧ Q k H'
theorem pt_truthK {a : Expr} {ta : TE} (e : X.K = K) (ha : PE X a ta) (he : ∀ whole, isTrue a X.env whole = (do let v ← whole; standAt a.pos; holding [v] (truthy v))) :
    PT X a (tTruK K ta) := by subst e; exact pt_truth ha he
end
end LX
/-! sorted(d, key=lambda y: d[y]) of a dict of whole numbers by whole numbers, d a captured name -/
namespace LX
open PySem PySem.Spec PySem.W PyProof.Rows L2 NdefX LamX
section
variable {P : Program} {w : World} {A : Around} {s : Shared}
/-- the lambda's call: the captured dict's value -/
theorem look_call {κ : Type} [DecidableEq κ] {knd : PySem.KeyKind P w κ} {f c' cc d : Addr} {qual x y : Str} {params : Arguments} {scope : Scope} {cl : List (Str × Addr)} {pm ctv v : Value} {px py pos : Pos} {fm : κ → Option Value} {k : κ} {i : Int} {t : Tok}
    (hroom : A.depth < recursionLimit) (ho : s.heap.get? f = some (PySem.W.kla_obj "<lambda>" qual params (.Subscript (.Name x px) (.Name y py) pos) scope cl pm c' ctv)) (hc : s.heap.CodeRec (.ref c') qual)
    (hk : scope.kind = .function) (hco : scope.isCoroutine = false) (hge : scope.isGenerator = false) (nocell : ∀ z ∈ scope.names, z.2 ≠ .cell) (hy : scope.names.lookup y = some .local) (hx : scope.names.lookup x = some .free)
    (hcx : cl.lookup x = some cc) (hcell : s.heap.IsCell cc (some (.ref d))) (hm : s.heap.MapOf knd d fm) (hkey : knd.is k v = true) (hval : fm k = some (.int i t)) (lim : s.heap.NoLimit)
    (hbind : ∀ (pm cv ctv : Value), bindArgs (PySem.W.kla_fn "<lambda>" qual params (.Subscript (.Name x px) (.Name y py) pos) scope cl pm cv ctv) ⟨[v], []⟩ = pure [(y, v)])
    (dx : (x == ("__debug__" : Str)) = false) (dy : (y == ("__debug__" : Str)) = false) (cdx : (x == ("__classdict__" : Str)) = false) :
    wpAny (model P w) A (call (.ref f) [v]) (KeyPure (.int i) s) (fun _ _ => False) s := by
  have rc : codeAny (model P w) A (.call (.ref f) ⟨[v], []⟩) (fun r s' => ∃ u, r = .ok (.ret u) ∧ KeyPure (.int i) s u s') s := by
    refine PySem.W.kla_callFunE hroom ho rfl hco hge rfl hc ?_
    rw [hbind]
    refine wpAny_pure (wpAny_newFunctionEnv nocell (fun z hz => ?_) (fun h₁ hns hsb => ⟨lim.fresh _ hsb, ?_⟩) hk)
    · have e : z = (y, v) := by simpa using hz
      rw [e]; exact hy
    show codeAny _ _ (.expr (.Subscript (.Name x px) (.Name y py) pos) (PySem.W.envX qual scope s.heap.objs.size f (.ref c') cl)) _ _
    have kp : ∀ b o, s.heap.get? b = some o → h₁.get? b = some o := fun b o e => hsb.extBut b o (Nat.ne_of_lt (Heap.lt_size e)) (Heap.get?_push_of_some _ e)
    have hcell' : h₁.IsCell cc (some (.ref d)) := by
      obtain ⟨o, h1, h2⟩ := hcell
      exact ⟨o, kp _ _ h1, h2⟩
    have hm' : h₁.MapOf knd d fm := by
      obtain ⟨o, es, ep, h1, h2⟩ := hm
      exact ⟨o, es, ep, kp _ _ h1, h2⟩
    refine PySem.W.kla_codeExpr ?_
    refine subD_of PySem.F.slot_dict_getitem.lookup (fun _ _ => rfl) ?_
    refine wpAny_Name (wpAny_loadName_free hk hx hcx hcell' ?_ cdx) dx
    refine wpAny_Name (wpAny_loadName_local hk hy hns (zip_look (ps := [y]) (us := [v]) (i := 0) (by simp) rfl rfl) ?_) dy
    refine ⟨hm'.typeIs, ?_⟩
    refine wpAny_getItem_of hkey hm' hval ?_
    exact ⟨_, rfl, _, _, rfl, kp, .int i t⟩
  refine wpAny_call (codeAny_mono rc fun r s' hq => ?_)
  obtain ⟨u, rfl, hq⟩ := hq
  exact hq
end
/-- a dict of whole numbers by whole numbers -/
def pD (ps : List (Int × Int)) : List (Key × V) := ps.map fun p => (.inl p.1, .int p.2)
theorem pD_val {ps : List (Int × Int)} {n i : Int} (nd : (ps.map (·.1)).Nodup) (h : (n, i) ∈ ps) : valV (pD ps) (.inl n) = some (.int i) := by
  induction ps with
  | nil => simp at h
  | cons p r ih =>
    obtain ⟨h1, h2⟩ := List.nodup_cons.mp nd
    unfold pD at ih ⊢
    rw [List.map_cons]
    rcases List.mem_cons.mp h with e | e
    · subst e
      exact valV_pos (p := (Sum.inl n, V.int i)) rfl
    · rw [valV_neg (p := (Sum.inl p.1, V.int p.2)) (fun z => h1 (by show p.1 ∈ _; rw [show p.1 = n from Sum.inl.inj z]; exact List.mem_map.mpr ⟨_, e, rfl⟩))]
      exact ih h2 e
theorem each_of {us : List Value} {ps : List (Int × Int)} (hl : us.length = ps.length) (h : ∀ (j : Nat) (v : Value) (p : Int × Int), us[j]? = some v → ps[j]? = some p → ∃ t, v = Value.int p.1 t) :
    PySem.W.EachIs (fun (v : Value) (p : Int × Int) => ∃ t, v = Value.int p.1 t) us ps := by
  induction us generalizing ps with
  | nil => cases ps with
    | nil => exact .nil
    | cons => simp at hl
  | cons u r ih => cases ps with
    | nil => simp at hl
    | cons p t => exact .cons (h 0 u p rfl rfl) (ih (by simpa using hl) fun j v q h1 h2 => h (j + 1) v q h1 h2)
theorem each_vals {us : List Value} {ps : List (Int × Int)} (h : PySem.W.EachIs (fun (v : Value) (p : Int × Int) => ∃ t, v = Value.int p.1 t) us ps) : Vals ((ps.map (·.1)).map V.int) us := by
  induction h with
  | nil => exact .nil
  | cons h _ ih => exact .cons h ih
section
variable {X : Cx}
theorem sort_dict_by {pins : List (Addr × Obj)} {σ : L2.St} {H : Hp} {s : Shared} {a fq : Addr} {ps : List (Int × Int)} {Q : VK} (hcalm : X.calm = true) (hu : X.A.units + 64 < cLine) (I : Inv X pins σ H s) (hd : H a = some (.dK (pD ps)))
    (turn : ∀ (v : Value) (p : Int × Int) (t : Tok), v = .int p.1 t → p ∈ ps → ∀ (h : Heap) (tk : Nat), (∀ b o, s.heap.get? b = some o → h.get? b = some o) →
      wpAny (model X.prog X.w) X.A.in1.in1 (call (.ref fq) [v]) (KeyPure (.int p.2) { s with heap := h, toks := tk }) (fun _ _ => False) { s with heap := h, toks := tk })
    (q : ∀ (ys : List (Int × Int)) (p : Addr), ys.Perm ps → ys.Pairwise (fun x y => x.2 ≤ y.2) → H p = none → Q (.ref p) (upd H p (.lst ((ys.map (·.1)).map V.int)))) :
    wpAny (model X.prog X.w) X.A (call (.builtin "sorted") [.ref a] [(Str.ofString "key", .ref fq)]) (EP X pins σ Q) X.xe s := by
  obtain ⟨z, lo, vs, rel, dd⟩ := dk_rd I.hok (Rd.of hd)
  obtain ⟨ep, hat⟩ := dd.dictAt
  have hkl : ps.length ≤ sizeLine := by
    unfold pD at z
    rw [List.length_map] at z
    exact z
  have hkeys : vs.map (·.1) = ps.map fun p => Sum.inl p.1 := by
    rw [← rel.keys]
    unfold pD
    rw [List.map_map]; rfl
  have hl : vs.length = ps.length := by
    have e := congrArg List.length hkeys
    rw [List.length_map, List.length_map] at e
    exact e
  have h16 : vs.length ≤ sizeLine := by rw [hl]; exact hkl
  refine call_function_entry_kw PyProof.Rows.kind_sorted PyProof.Rows.plain_sorted PyProof.Rows.entry_sorted (PyProof.Rows.ksk_s1 _ _) ?_
  unfold Builtin.«sorted»
  refine wpAny_bind (m := checkCount "sorted" 1 1 _) (wpAny_pure ?_)
  refine wpAny_bind (PySem.W.kdu_collect (A := X.A.in1) (PySem.W.kdl_dict (knd := mixKind X.prog X.w) (kvs := vs) (ep := ep) lo) (I.ok.hd hcalm) hat h16 fun h' tk acc hk hacc => ?_)
  have hal : acc.toList.length = ps.length := by rw [Array.length_toList, hacc.1, hl]
  have hE : PySem.W.EachIs (fun (v : Value) (p : Int × Int) => ∃ t, v = Value.int p.1 t) acc.toList ps := each_of hal fun j v p e ep' => by
    obtain ⟨k, x, e1, e2⟩ := hacc.2 j v (by rw [← Array.getElem?_toList]; exact e)
    have e3 : (vs.map (·.1))[j]? = some k := by rw [List.getElem?_map, e1]; rfl
    rw [hkeys, List.getElem?_map, ep'] at e3
    have e5 : Sum.inl p.1 = k := Option.some.inj e3
    subst e5
    rcases keyIs_shape (show keyIs (Sum.inl p.1) v = true from e2) with ⟨i, t, ek, ev⟩ | ⟨z, t, ek, ev⟩
    · cases ek
      exact ⟨t, ev⟩
    · cases ek
  have I1 : Inv X pins σ H { s with heap := h', toks := tk } := I.kept hk
  refine wpAny_bind (wpAny_newList ?_ (by rw [hal]; exact hkl))
  have hoL : (h'.push (seqObj "list" acc.toList.toArray 0)).get? h'.objs.size = some (seqObj "list" acc.toList.toArray 0) := Heap.get?_push_size _ rfl
  show wpAny _ _ _ _ _ { s with heap := h'.push (seqObj "list" acc.toList.toArray 0), toks := tk }
  have nL : ∀ b o, h'.get? b = some o → b ≠ h'.objs.size := fun b o e => Nat.ne_of_lt (Heap.lt_size e)
  refine wpAny_bind (wpAny_holding (PySem.W.list_sort_key_data (A := X.A.in1) (b := false) (s := { s with heap := h'.push (seqObj "list" acc.toList.toArray 0), toks := tk }) (fun p : Int × Int => PyData.int p.2) hoL hE ?_ ?_ hkl ?_ (PyProof.Rows.ksk_l1 _ _) (PyProof.Rows.ksk_t1 _ _) (fun v p hv hp h2 tk2 kb => ?_) fun out c h2 tk2 kb hout hlen hEo => ?_))
  · exact PySem.W.AllAlike.of (enc := fun p : Int × Int => PyData.int p.2) fun _ _ => rfl
  · exact PySem.W.Sortable.others (enc := fun p : Int × Int => PyData.int p.2) fun _ => ⟨(by intro z; cases z), fun xs => (by intro z; cases z)⟩
  · intro p _
    show X.A.units + 1 + 1 + 0 < cLine
    omega
  · obtain ⟨t, rfl⟩ := hv
    exact turn _ p t rfl hp h2 tk2 fun b o e => kb b o (nL b o (hk b o e)) (Heap.get?_push_of_some _ (hk b o e))
  · have hm := hEo
    rw [PySem.W.dataLe_int (fun p : Int × Int => p.2)] at hm
    have pm : (ps.mergeSort fun a b : Int × Int => decide (a.2 ≤ b.2)).Perm ps := List.mergeSort_perm _ _
    have pw : (ps.mergeSort fun a b : Int × Int => decide (a.2 ≤ b.2)).Pairwise (fun x y => x.2 ≤ y.2) := by
      have := List.pairwise_mergeSort (le := fun a b : Int × Int => decide (a.2 ≤ b.2)) (fun a b c h1 h2 => by simp at h1 h2 ⊢; omega) (fun a b => by simp; omega) ps
      exact this.imp fun h => of_decide_eq_true h
    generalize ps.mergeSort (fun a b : Int × Int => decide (a.2 ≤ b.2)) = ys at hm pm pw
    have hvals := each_vals hm
    have hlen2 : ((ys.map (·.1)).map V.int).length ≤ sizeLine := by
      rw [List.length_map, List.length_map, pm.length_eq]
      exact hkl
    refine wpAny_pure ⟨_, rfl, .ref h'.objs.size, upd H h'.objs.size (.lst ((ys.map (·.1)).map V.int)), I1.laid (t' := tk2) (fun b u e => kb b u (nL b u e) (Heap.get?_push_of_some _ e)) (Nat.le_refl _)
      (show ObjOk X.prog X.w _ _ _ (.lst ((ys.map (·.1)).map V.int)) from ⟨hlen2, out, c, hvals, hout⟩), rfl, q _ _ pm pw (I1.hok.fresh (Nat.le_refl _))⟩
def tSKL (T : List (Addr × Str)) (i : Nat) : TE := fun σ H Q => ∃ (a : Addr) (ps : List (Int × Int)), σ[i]? = some (some (.ref a)) ∧ H a = some (.dK (pD ps)) ∧ (ps.map (·.1)).Nodup ∧ Tabs T H ∧
  ∀ H1, ExtN H H1 → Tabs T H1 → ∀ (ys : List (Int × Int)) (q : Addr), ys.Perm ps → ys.Pairwise (fun x y => x.2 ≤ y.2) → H1 q = none → Q (.ref q) (upd H1 q (.lst ((ys.map (·.1)).map V.int)))
theorem pe_sortKeyLam {T : List (Addr × Str)} {c P : Addr} {k i : Nat} {x y : Str} {params : Arguments} {scope : Scope} {p px px2 py spos lpos kpos pos : Pos} (hcalm : X.calm = true) (hr : Room k X.A) (hg : Gl X "sorted") (hm : X.mg "sorted" = none)
    (hN : X.N[i]? = some x) (hvx : X.env.scope.names.lookup x = some .cell) (TB : TabB X.base X.mg c P) (hcode : X.env.code = .ref c) (hmT : (P, X.env.qual ++ "<lambda>") ∈ T) (huT : ∀ p ∈ T, p.1 = P → p.2 = X.env.qual ++ "<lambda>")
    (hdef : defaultsOf params X.env = ([], [])) (hk : scope.kind = .function) (hco : scope.isCoroutine = false) (hge : scope.isGenerator = false) (nocell : ∀ z ∈ scope.names, z.2 ≠ .cell) (hy : scope.names.lookup y = some .local) (hx : scope.names.lookup x = some .free)
    (hfree : ∀ z ∈ scope.names, z.2 = .free → X.env.scope.names.lookup z.1 = some .cell ∨ X.env.scope.names.lookup z.1 = some .free)
    (hbind : ∀ (q : Str) (cl : List (Str × Addr)) (v pm cv ctv : Value), bindArgs (PySem.W.kla_fn "<lambda>" q params (.Subscript (.Name x px2) (.Name y py) spos) scope cl pm cv ctv) ⟨[v], []⟩ = pure [(y, v)])
    (dx : (x == ("__debug__" : Str)) = false) (dy : (y == ("__debug__" : Str)) = false) (cdx : (x == ("__classdict__" : Str)) = false) :
    PE X (.Call (.Name "sorted" p) [.Name x px] [⟨some "key", .Lambda params (.Subscript (.Name x px2) (.Name y py) spos) scope lpos, kpos⟩] pos) (tSKL T i) := by
  refine ⟨fun pins s σ H Q I h => ?_⟩
  obtain ⟨a, ps, hs, hd, nd, hT, q⟩ := h
  have hfr : ∀ z ∈ scope.names, z.2 = .free → ∃ c, X.env.cells.lookup z.1 = some c := fun z hz e => (hfree z hz e).elim (fun q => I.ok.has _ (.inl q)) fun q => I.ok.has _ (.inr q)
  refine wpAny_Call_Name_kw (ld_blt I hg hm bb_sorted ?_)
  refine PyProof.Rows.callWith_kw (id := "sorted") (thn ((pa_cons (pe_var (pos := px) hN (Or.inr (Or.inl hvx)) dx cdx) pa_nil).run pos pins s σ H (fun vs H1 => vs = [.ref a] ∧ H1 = H) I ⟨_, hs, rfl, rfl⟩) fun us s1 hq => ?_)
  obtain ⟨vs, H1, I1, r1, e1, e2⟩ := hq
  subst e1 e2
  obtain ⟨u0, rfl, ru0⟩ := vals1 r1
  obtain rfl : u0 = Value.ref a := ru0
  show wpAny _ _ (evalAll ((do let v ← eval (.Lambda params (.Subscript (.Name x px2) (.Name y py) spos) scope lpos) X.env; standAt pos; pure v) :: [])) _ _ s1
  refine wpAny_evalAll_cons (wpAny_bind (lam_make2 I1 TB hcode hmT huT hT hdef hfr fun f c' pm ctv H2 s2 I2 eN T2 hf hfn hfrm hcO => wpAny_bind (wpAny_standAt (wpAny_pure ?_))))
  refine wpAny_evalAll_nil ?_
  show wpAny _ _ (call (.builtin "sorted") [.ref a] [(Str.ofString "key", .ref f)]) _ _ s2
  have hd2 := eN _ _ hd (by intro ps z; cases z)
  have hu64 : X.A.units + 64 < cLine := by have := hr.un; omega
  refine sort_dict_by hcalm hu64 I2 hd2 (fun v pr t hv hp h tk kb => ?_) (q H2 eN T2)
  subst hv
  have Ih : Inv X pins σ H2 { s2 with heap := h, toks := tk } := I2.kept kb
  obtain ⟨m, hn, hl⟩ := I2.loc
  obtain ⟨u, r, l⟩ := hl i x (.ref a) hN hs (Or.inr (Or.inl hvx))
  obtain rfl : u = Value.ref a := r
  rcases l with ⟨hk', _⟩ | ⟨_, cc, hcc, hcell⟩
  · have hk' : X.env.scope.names.lookup x = some .local := hk'
    rw [hvx] at hk'
    cases hk'
  obtain ⟨z, lo, ws, rel, dd⟩ := dk_rd Ih.hok (Rd.of hd2)
  obtain ⟨w', hw, rw'⟩ := RelO.some_of (v := .int pr.2) (o := valueAt ws (.inl pr.1)) (by have := rel.val (.inl pr.1); rw [pD_val nd (show (pr.1, pr.2) ∈ ps from hp)] at this; exact this)
  obtain ⟨t', rfl⟩ := rw'
  refine look_call (A := X.A.in1.in1) (s := { s2 with heap := h, toks := tk }) (knd := mixKind X.prog X.w) (k := .inl pr.1) (t := t') ?_ (kb _ _ hf) (codeO_at Ih.hok hcO) hk hco hge nocell hy hx (clo_has hfr (PySem.mem_of_lookup hx) hcc) ?_ dd.mapOf ?_ hw Ih.nolimit (fun _ _ _ => hbind _ _ _ _ _ _) dx dy cdx
  · have := hr.dp
    show X.A.depth < _
    omega
  · obtain ⟨o, h1, h2⟩ := hcell
    exact ⟨o, kb _ _ h1, h2⟩
  · exact kV_is (k := .inl pr.1) ⟨t, rfl⟩
end
/-- a def whose code object is known: it makes a lambda -/
structure FunC (K : PySem.W.Frag) (x qual : Str) (st : Stmt) (f : Addr) (fd : FuncData) (c : Addr) : Prop where
  ex : ∃ (oc : Value) (od : Option Addr) (kV doc pm : Value) (an : Option Addr) (ct : Value) (osl : Array (Option Value)),
    fd = PySem.W.fnOf x qual (defArgs st) (defBody st) (defScope st) .none kV doc pm an (.ref c) ct ∧ K.lookup f = some ⟨oc, od, .func fd, osl⟩ ∧ PySem.W.codeIn K (.ref c) qual = true
theorem FunC.ok {P : Program} {w : World} {K : PySem.W.Frag} {mg : Str → Option Value} {base : Heap} {x qual : Str} {st : Stmt} {f c : Addr} {fd : FuncData} {N ps : List Str} {k : Nat} {sp : Sp} (F : FunC K x qual st f fd c) (S : FnScope N ps (defScope st)) (len : ∀ vs H Q E, sp vs H Q E → vs.length = ps.length)
    (hbody : ∀ (A : Around) (outer : List Env) (s : Shared) (H : Hp) (vs : List V) (Q : VK) (E : XK), Room k (A.deeper (envOfC qual (defScope st) s.heap.objs.size f (.ref c))) → sp vs H Q E →
      ∃ t, PSs (cxOf CX0 P w K mg base N qual (defScope st) f (.ref c) A outer s H E).nox (defBody st) t ∧ t { nx := fun _ H' => Q .non H', rt := Q } (L2.start N vs) H) : FnOk P w K mg base CX0 (k + 1) f fd ps sp := by
  obtain ⟨oc, od, kV, doc, pm, an, ct, osl, rfl, lk, hcd⟩ := F.ex
  refine fn_of lk hcd S len fun A outer s H vs Q E hr hsp => ?_
  obtain ⟨t, h, q⟩ := hbody A outer s H vs Q E hr hsp
  exact ⟨t, h.nox, q⟩
end LX
namespace LX
open PySem PySem.Spec PyProof.Rows L2 NdefX
def top (i : Nat) : Stmt := PySem.Challenge.pw_saggar_k05_collect_keeps_the_reached.main.body.getD i (.Pass ⟨0, 0, 0, 0⟩)
abbrev s_is_ref : Stmt := top 8
abbrev N_is_ref : List Str := ["word"]
theorem sc_is_ref : FnScope N_is_ref ["word"] (defScope s_is_ref) := ⟨rfl, rfl, rfl, by decide +kernel, rfl, by decide +kernel, by decide +kernel⟩
abbrev s_ref_of : Stmt := top 9
abbrev N_ref_of : List Str := ["word"]
theorem sc_ref_of : FnScope N_ref_of ["word"] (defScope s_ref_of) := ⟨rfl, rfl, rfl, by decide +kernel, rfl, by decide +kernel, by decide +kernel⟩
abbrev s_reached : Stmt := top 11
abbrev N_reached : List Str := ["store", "roots", "found", "waiting", "word", "number"]
theorem sc_reached : FnScope N_reached ["store", "roots"] (defScope s_reached) := ⟨rfl, rfl, rfl, by decide +kernel, rfl, by decide +kernel, by decide +kernel⟩
abbrev s_collect : Stmt := top 12
abbrev N_collect : List Str := ["store", "roots", "found", "gone", "number"]
theorem sc_collect : FnScope N_collect ["store", "roots"] (defScope s_collect) := ⟨rfl, rfl, rfl, by decide +kernel, rfl, by decide +kernel, by decide +kernel⟩
abbrev s_Store___init__ : Stmt := inClass (top 15) 0
abbrev N_Store___init__ : List Str := ["self", "room", "entries"]
theorem sc_Store___init__ : FnScope N_Store___init__ ["self", "room", "entries"] (defScope s_Store___init__) := ⟨rfl, rfl, rfl, by decide +kernel, rfl, by decide +kernel, by decide +kernel⟩
abbrev s_Store_used : Stmt := inClass (top 15) 1
abbrev N_Store_used : List Str := ["self"]
theorem sc_Store_used : FnScope N_Store_used ["self"] (defScope s_Store_used) := ⟨rfl, rfl, rfl, by decide +kernel, rfl, by decide +kernel, by decide +kernel⟩
abbrev s_Store_exists : Stmt := inClass (top 15) 2
abbrev N_Store_exists : List Str := ["self", "number"]
theorem sc_Store_exists : FnScope N_Store_exists ["self", "number"] (defScope s_Store_exists) := ⟨rfl, rfl, rfl, by decide +kernel, rfl, by decide +kernel, by decide +kernel⟩
abbrev s_Store_numbers : Stmt := inClass (top 15) 3
abbrev N_Store_numbers : List Str := ["self"]
theorem sc_Store_numbers : FnScope N_Store_numbers ["self"] (defScope s_Store_numbers) := ⟨rfl, rfl, rfl, by decide +kernel, rfl, by decide +kernel, by decide +kernel⟩
abbrev s_Store_free_number : Stmt := inClass (top 15) 4
abbrev N_Store_free_number : List Str := ["self"]
theorem sc_Store_free_number : FnScope N_Store_free_number ["self"] (defScope s_Store_free_number) := ⟨rfl, rfl, rfl, by decide +kernel, rfl, by decide +kernel, by decide +kernel⟩
abbrev s_Store_allocate : Stmt := inClass (top 15) 5
abbrev N_Store_allocate : List Str := ["self", "kind", "size", "number"]
theorem sc_Store_allocate : FnScope N_Store_allocate ["self", "kind", "size"] (defScope s_Store_allocate) := ⟨rfl, rfl, rfl, by decide +kernel, rfl, by decide +kernel, by decide +kernel⟩
abbrev s_Store_size : Stmt := inClass (top 15) 6
abbrev N_Store_size : List Str := ["self", "number"]
theorem sc_Store_size : FnScope N_Store_size ["self", "number"] (defScope s_Store_size) := ⟨rfl, rfl, rfl, by decide +kernel, rfl, by decide +kernel, by decide +kernel⟩
abbrev s_Store_kind : Stmt := inClass (top 15) 7
abbrev N_Store_kind : List Str := ["self", "number"]
theorem sc_Store_kind : FnScope N_Store_kind ["self", "number"] (defScope s_Store_kind) := ⟨rfl, rfl, rfl, by decide +kernel, rfl, by decide +kernel, by decide +kernel⟩
abbrev s_Store_set_kind : Stmt := inClass (top 15) 8
abbrev N_Store_set_kind : List Str := ["self", "number", "word"]
theorem sc_Store_set_kind : FnScope N_Store_set_kind ["self", "number", "word"] (defScope s_Store_set_kind) := ⟨rfl, rfl, rfl, by decide +kernel, rfl, by decide +kernel, by decide +kernel⟩
abbrev s_Store_put : Stmt := inClass (top 15) 10
abbrev N_Store_put : List Str := ["self", "number", "at", "word"]
theorem sc_Store_put : FnScope N_Store_put ["self", "number", "at", "word"] (defScope s_Store_put) := ⟨rfl, rfl, rfl, by decide +kernel, rfl, by decide +kernel, by decide +kernel⟩
abbrev s_Store_slots : Stmt := inClass (top 15) 11
abbrev N_Store_slots : List Str := ["self", "number", "place"]
theorem sc_Store_slots : FnScope N_Store_slots ["self", "number"] (defScope s_Store_slots) := ⟨rfl, rfl, rfl, by decide +kernel, rfl, by decide +kernel, by decide +kernel⟩
abbrev s_Store_drop : Stmt := inClass (top 15) 12
abbrev N_Store_drop : List Str := ["self", "number"]
theorem sc_Store_drop : FnScope N_Store_drop ["self", "number"] (defScope s_Store_drop) := ⟨rfl, rfl, rfl, by decide +kernel, rfl, by decide +kernel, by decide +kernel⟩
abbrev s_Store_close_up : Stmt := inClass (top 15) 13
abbrev N_Store_close_up : List Str := ["self", "words", "places", "old", "number", "place"]
theorem sc_Store_close_up : FnScope N_Store_close_up ["self"] (defScope s_Store_close_up) := ⟨rfl, rfl, rfl, by decide +kernel, rfl, by decide +kernel, by decide +kernel⟩
abbrev s_Store_exchange : Stmt := inClass (top 15) 16
abbrev N_Store_exchange : List Str := ["self", "first", "second", "one", "other"]
theorem sc_Store_exchange : FnScope N_Store_exchange ["self", "first", "second"] (defScope s_Store_exchange) := ⟨rfl, rfl, rfl, by decide +kernel, rfl, by decide +kernel, by decide +kernel⟩
abbrev s__law_number : Stmt := top 17
abbrev N__law_number : List Str := ["_law_cell", "_law_k", "_law_mixed"]
theorem sc__law_number : FnScope N__law_number ["_law_cell", "_law_k"] (defScope s__law_number) := ⟨rfl, rfl, rfl, by decide +kernel, rfl, by decide +kernel, by decide +kernel⟩
abbrev s__law_word : Stmt := top 18
abbrev N__law_word : List Str := ["_law_x", "_law_many", "_law_rest"]
theorem sc__law_word : FnScope N__law_word ["_law_x", "_law_many"] (defScope s__law_word) := ⟨rfl, rfl, rfl, by decide +kernel, rfl, by decide +kernel, by decide +kernel⟩
abbrev s__law_is : Stmt := top 19
abbrev N__law_is : List Str := ["_law_actual", "_law_due_here"]
theorem sc__law_is : FnScope N__law_is ["_law_actual", "_law_due_here"] (defScope s__law_is) := ⟨rfl, rfl, rfl, by decide +kernel, rfl, by decide +kernel, by decide +kernel⟩
abbrev s__law_same : Stmt := top 20
abbrev N__law_same : List Str := ["_law_actual", "_law_due_here", "_law_k"]
theorem sc__law_same : FnScope N__law_same ["_law_actual", "_law_due_here"] (defScope s__law_same) := ⟨rfl, rfl, rfl, by decide +kernel, rfl, by decide +kernel, by decide +kernel⟩
abbrev s__law_living : Stmt := top 21
abbrev N__law_living : List Str := ["_law_row", "_law_one"]
theorem sc__law_living : FnScope N__law_living ["_law_row"] (defScope s__law_living) := ⟨rfl, rfl, rfl, by decide +kernel, rfl, by decide +kernel, by decide +kernel⟩
abbrev s__law_flat : Stmt := top 22
abbrev N__law_flat : List Str := ["_law_row", "_law_flat_here", "_law_one"]
theorem sc__law_flat : FnScope N__law_flat ["_law_row"] (defScope s__law_flat) := ⟨rfl, rfl, rfl, by decide +kernel, rfl, by decide +kernel, by decide +kernel⟩
abbrev s__law_grown : Stmt := top 23
abbrev N__law_grown : List Str := ["_law_store", "_law_row", "_law_x", "_law_living_here", "_law_gone", "_law_one", "_law_other", "_law_number_here", "_law_size"]
theorem sc__law_grown : FnScope N__law_grown ["_law_store", "_law_row", "_law_x"] (defScope s__law_grown) := ⟨rfl, rfl, rfl, by decide +kernel, rfl, by decide +kernel, by decide +kernel⟩
abbrev s__law_linked : Stmt := top 24
abbrev N__law_linked : List Str := ["_law_store", "_law_row", "_law_x", "_law_rest", "_law_k", "_law_one", "_law_y", "_law_at"]
theorem sc__law_linked : FnScope N__law_linked ["_law_store", "_law_row", "_law_x"] (defScope s__law_linked) := ⟨rfl, rfl, rfl, by decide +kernel, rfl, by decide +kernel, by decide +kernel⟩
abbrev s__law_chained : Stmt := top 25
abbrev N__law_chained : List Str := ["_law_store", "_law_row", "_law_living_here", "_law_k"]
theorem sc__law_chained : FnScope N__law_chained ["_law_store", "_law_row"] (defScope s__law_chained) := ⟨rfl, rfl, rfl, by decide +kernel, rfl, by decide +kernel, by decide +kernel⟩
abbrev s__law_built : Stmt := top 26
abbrev N__law_built : List Str := ["_law_store", "_law_cells", "_law_row", "_law_count", "_law_rest", "_law_k"]
theorem sc__law_built : FnScope N__law_built ["_law_store", "_law_cells"] (defScope s__law_built) := ⟨rfl, rfl, rfl, by decide +kernel, rfl, by decide +kernel, by decide +kernel⟩
abbrev s__law_due : Stmt := top 27
abbrev N__law_due : List Str := ["_law_row", "_law_roots_here", "_law_living_here", "_law_numbers", "_law_one", "_law_found", "_law_waiting", "_law_word_here", "_law_number_here"]
theorem sc__law_due : FnScope N__law_due ["_law_row", "_law_roots_here"] (defScope s__law_due) := ⟨rfl, rfl, rfl, by decide +kernel, rfl, by decide +kernel, by decide +kernel⟩
abbrev s__law_roots : Stmt := top 28
abbrev N__law_roots : List Str := ["_law_row", "_law_cells", "_law_k"]
theorem sc__law_roots : FnScope N__law_roots ["_law_row", "_law_cells"] (defScope s__law_roots) := ⟨rfl, rfl, rfl, by decide +kernel, rfl, by decide +kernel, by decide +kernel⟩
abbrev s__law_free : Stmt := top 29
abbrev N__law_free : List Str := ["_law_numbers", "_law_number_here"]
theorem sc__law_free : FnScope N__law_free ["_law_numbers"] (defScope s__law_free) := ⟨rfl, rfl, rfl, by decide +kernel, rfl, by decide +kernel, by decide +kernel⟩
abbrev s_law : Stmt := top 30
abbrev N_law : List Str := ["_law_script", "_law_cells", "_law_cell", "_law_store", "_law_row", "_law_roots_here", "_law_passed", "_law_due_here", "_law_living_here", "_law_told", "_law_flat_here", "_law_one", "_law_turn", "_law_here"]
theorem sc_law : FnScope N_law ["_law_script"] (defScope s_law) := ⟨rfl, rfl, rfl, by decide +kernel, rfl, by decide +kernel, by decide +kernel⟩
structure Wd (P : Program) (K : PySem.W.Frag) (mg : Str → Option Value) where
  n_bool : mg "bool" = none
  n_int : mg "int" = none
  n_isinstance : mg "isinstance" = none
  n_len : mg "len" = none
  n_list : mg "list" = none
  n_min : mg "min" = none
  n_range : mg "range" = none
  n_sorted : mg "sorted" = none
  t_NIL : Tok
  g_NIL : mg "NIL" = some (.int (0) t_NIL)
  t_HEADER : Tok
  g_HEADER : mg "HEADER" = some (.int (3) t_HEADER)
  c_Store : Addr
  g_Store : mg "Store" = some (.ref c_Store)
  C_Store : Cls K c_Store
  na_Store_room : NoAttr K c_Store "room"
  na_Store_entries : NoAttr K c_Store "entries"
  na_Store_words : NoAttr K c_Store "words"
  na_Store__places : NoAttr K c_Store "_places"
  na_Store__least : NoAttr K c_Store "_least"
  f_is_ref : Addr
  fd_is_ref : FuncData
  F_is_ref : Fun K "is_ref" "is_ref" s_is_ref f_is_ref fd_is_ref
  g_is_ref : mg "is_ref" = some (.ref f_is_ref)
  b_is_ref : Binds K fd_is_ref ["word"] []
  f_ref_of : Addr
  fd_ref_of : FuncData
  F_ref_of : Fun K "ref_of" "ref_of" s_ref_of f_ref_of fd_ref_of
  g_ref_of : mg "ref_of" = some (.ref f_ref_of)
  b_ref_of : Binds K fd_ref_of ["word"] []
  f_reached : Addr
  fd_reached : FuncData
  F_reached : Fun K "reached" "reached" s_reached f_reached fd_reached
  g_reached : mg "reached" = some (.ref f_reached)
  b_reached : Binds K fd_reached ["store", "roots"] []
  f_collect : Addr
  fd_collect : FuncData
  F_collect : Fun K "collect" "collect" s_collect f_collect fd_collect
  g_collect : mg "collect" = some (.ref f_collect)
  b_collect : Binds K fd_collect ["store", "roots"] []
  f_Store___init__ : Addr
  fd_Store___init__ : FuncData
  F_Store___init__ : Fun K "__init__" "Store.__init__" s_Store___init__ f_Store___init__ fd_Store___init__
  M_Store : Mk K c_Store f_Store___init__
  b_Store___init__ : Binds K fd_Store___init__ ["self", "room", "entries"] []
  f_Store_used : Addr
  fd_Store_used : FuncData
  F_Store_used : Fun K "used" "Store.used" s_Store_used f_Store_used fd_Store_used
  m_Store_used : Meth K c_Store "used" f_Store_used
  b_Store_used : Binds K fd_Store_used ["self"] []
  f_Store_exists : Addr
  fd_Store_exists : FuncData
  F_Store_exists : Fun K "exists" "Store.exists" s_Store_exists f_Store_exists fd_Store_exists
  m_Store_exists : Meth K c_Store "exists" f_Store_exists
  b_Store_exists : Binds K fd_Store_exists ["self", "number"] []
  f_Store_numbers : Addr
  fd_Store_numbers : FuncData
  F_Store_numbers : Fun K "numbers" "Store.numbers" s_Store_numbers f_Store_numbers fd_Store_numbers
  m_Store_numbers : Meth K c_Store "numbers" f_Store_numbers
  b_Store_numbers : Binds K fd_Store_numbers ["self"] []
  f_Store_free_number : Addr
  fd_Store_free_number : FuncData
  F_Store_free_number : Fun K "free_number" "Store.free_number" s_Store_free_number f_Store_free_number fd_Store_free_number
  m_Store_free_number : Meth K c_Store "free_number" f_Store_free_number
  b_Store_free_number : Binds K fd_Store_free_number ["self"] []
  f_Store_allocate : Addr
  fd_Store_allocate : FuncData
  F_Store_allocate : Fun K "allocate" "Store.allocate" s_Store_allocate f_Store_allocate fd_Store_allocate
  m_Store_allocate : Meth K c_Store "allocate" f_Store_allocate
  b_Store_allocate : Binds K fd_Store_allocate ["self", "kind", "size"] []
  f_Store_size : Addr
  fd_Store_size : FuncData
  F_Store_size : Fun K "size" "Store.size" s_Store_size f_Store_size fd_Store_size
  m_Store_size : Meth K c_Store "size" f_Store_size
  b_Store_size : Binds K fd_Store_size ["self", "number"] []
  f_Store_kind : Addr
  fd_Store_kind : FuncData
  F_Store_kind : Fun K "kind" "Store.kind" s_Store_kind f_Store_kind fd_Store_kind
  m_Store_kind : Meth K c_Store "kind" f_Store_kind
  b_Store_kind : Binds K fd_Store_kind ["self", "number"] []
  f_Store_set_kind : Addr
  fd_Store_set_kind : FuncData
  F_Store_set_kind : Fun K "set_kind" "Store.set_kind" s_Store_set_kind f_Store_set_kind fd_Store_set_kind
  m_Store_set_kind : Meth K c_Store "set_kind" f_Store_set_kind
  b_Store_set_kind : Binds K fd_Store_set_kind ["self", "number", "word"] []
  f_Store_put : Addr
  fd_Store_put : FuncData
  F_Store_put : Fun K "put" "Store.put" s_Store_put f_Store_put fd_Store_put
  m_Store_put : Meth K c_Store "put" f_Store_put
  b_Store_put : Binds K fd_Store_put ["self", "number", "at", "word"] []
  f_Store_slots : Addr
  fd_Store_slots : FuncData
  F_Store_slots : Fun K "slots" "Store.slots" s_Store_slots f_Store_slots fd_Store_slots
  m_Store_slots : Meth K c_Store "slots" f_Store_slots
  b_Store_slots : Binds K fd_Store_slots ["self", "number"] []
  f_Store_drop : Addr
  fd_Store_drop : FuncData
  F_Store_drop : Fun K "drop" "Store.drop" s_Store_drop f_Store_drop fd_Store_drop
  m_Store_drop : Meth K c_Store "drop" f_Store_drop
  b_Store_drop : Binds K fd_Store_drop ["self", "number"] []
  f_Store_close_up : Addr
  fd_Store_close_up : FuncData
  cA_Store_close_up : Addr
  PT_Store_close_up : Addr
  hd_Store_close_up : PySem.W.codeHdIn K cA_Store_close_up PT_Store_close_up = true
  np_Store_close_up : K.lookup PT_Store_close_up = none
  G_Store_close_up : FunC K "close_up" "Store.close_up" s_Store_close_up f_Store_close_up fd_Store_close_up cA_Store_close_up
  F_Store_close_up : Fun K "close_up" "Store.close_up" s_Store_close_up f_Store_close_up fd_Store_close_up
  m_Store_close_up : Meth K c_Store "close_up" f_Store_close_up
  b_Store_close_up : Binds K fd_Store_close_up ["self"] []
  f_Store_exchange : Addr
  fd_Store_exchange : FuncData
  F_Store_exchange : Fun K "exchange" "Store.exchange" s_Store_exchange f_Store_exchange fd_Store_exchange
  m_Store_exchange : Meth K c_Store "exchange" f_Store_exchange
  b_Store_exchange : Binds K fd_Store_exchange ["self", "first", "second"] []
  f__law_number : Addr
  fd__law_number : FuncData
  F__law_number : Fun K "_law_number" "_law_number" s__law_number f__law_number fd__law_number
  g__law_number : mg "_law_number" = some (.ref f__law_number)
  b__law_number : Binds K fd__law_number ["_law_cell", "_law_k"] []
  f__law_word : Addr
  fd__law_word : FuncData
  F__law_word : Fun K "_law_word" "_law_word" s__law_word f__law_word fd__law_word
  g__law_word : mg "_law_word" = some (.ref f__law_word)
  b__law_word : Binds K fd__law_word ["_law_x", "_law_many"] []
  f__law_is : Addr
  fd__law_is : FuncData
  F__law_is : Fun K "_law_is" "_law_is" s__law_is f__law_is fd__law_is
  g__law_is : mg "_law_is" = some (.ref f__law_is)
  b__law_is : Binds K fd__law_is ["_law_actual", "_law_due_here"] []
  f__law_same : Addr
  fd__law_same : FuncData
  F__law_same : Fun K "_law_same" "_law_same" s__law_same f__law_same fd__law_same
  g__law_same : mg "_law_same" = some (.ref f__law_same)
  b__law_same : Binds K fd__law_same ["_law_actual", "_law_due_here"] []
  f__law_living : Addr
  fd__law_living : FuncData
  F__law_living : Fun K "_law_living" "_law_living" s__law_living f__law_living fd__law_living
  g__law_living : mg "_law_living" = some (.ref f__law_living)
  b__law_living : Binds K fd__law_living ["_law_row"] []
  f__law_flat : Addr
  fd__law_flat : FuncData
  F__law_flat : Fun K "_law_flat" "_law_flat" s__law_flat f__law_flat fd__law_flat
  g__law_flat : mg "_law_flat" = some (.ref f__law_flat)
  b__law_flat : Binds K fd__law_flat ["_law_row"] []
  f__law_grown : Addr
  fd__law_grown : FuncData
  F__law_grown : Fun K "_law_grown" "_law_grown" s__law_grown f__law_grown fd__law_grown
  g__law_grown : mg "_law_grown" = some (.ref f__law_grown)
  b__law_grown : Binds K fd__law_grown ["_law_store", "_law_row", "_law_x"] []
  f__law_linked : Addr
  fd__law_linked : FuncData
  F__law_linked : Fun K "_law_linked" "_law_linked" s__law_linked f__law_linked fd__law_linked
  g__law_linked : mg "_law_linked" = some (.ref f__law_linked)
  b__law_linked : Binds K fd__law_linked ["_law_store", "_law_row", "_law_x"] []
  f__law_chained : Addr
  fd__law_chained : FuncData
  F__law_chained : Fun K "_law_chained" "_law_chained" s__law_chained f__law_chained fd__law_chained
  g__law_chained : mg "_law_chained" = some (.ref f__law_chained)
  b__law_chained : Binds K fd__law_chained ["_law_store", "_law_row"] []
  f__law_built : Addr
  fd__law_built : FuncData
  F__law_built : Fun K "_law_built" "_law_built" s__law_built f__law_built fd__law_built
  g__law_built : mg "_law_built" = some (.ref f__law_built)
  b__law_built : Binds K fd__law_built ["_law_store", "_law_cells"] []
  f__law_due : Addr
  fd__law_due : FuncData
  F__law_due : Fun K "_law_due" "_law_due" s__law_due f__law_due fd__law_due
  g__law_due : mg "_law_due" = some (.ref f__law_due)
  b__law_due : Binds K fd__law_due ["_law_row", "_law_roots_here"] []
  f__law_roots : Addr
  fd__law_roots : FuncData
  F__law_roots : Fun K "_law_roots" "_law_roots" s__law_roots f__law_roots fd__law_roots
  g__law_roots : mg "_law_roots" = some (.ref f__law_roots)
  b__law_roots : Binds K fd__law_roots ["_law_row", "_law_cells"] []
  f__law_free : Addr
  fd__law_free : FuncData
  F__law_free : Fun K "_law_free" "_law_free" s__law_free f__law_free fd__law_free
  g__law_free : mg "_law_free" = some (.ref f__law_free)
  b__law_free : Binds K fd__law_free ["_law_numbers"] []
  f_law : Addr
  fd_law : FuncData
  F_law : Fun K "law" "law" s_law f_law fd_law
  g_law : mg "law" = some (.ref f_law)
  b_law : Binds K fd_law ["_law_script"] []
def mkW {l : PySem.W.OpenLaw} {K : PySem.W.Frag} {h : Heap} {mg : Str → Option Value} (X : K.In h) (G : h.Ns mainGlobals mg)
    {t_NIL : Tok}
    {t_HEADER : Tok}
    {C_Store : Addr}
    {ocis_ref kVis_ref dcis_ref pmis_ref cdis_ref ctis_ref : Value} {odis_ref anis_ref : Option Addr} {slis_ref : Array (Option Value)} {fis_ref : Addr}
    {ocref_of kVref_of dcref_of pmref_of cdref_of ctref_of : Value} {odref_of anref_of : Option Addr} {slref_of : Array (Option Value)} {fref_of : Addr}
    {ocreached kVreached dcreached pmreached cdreached ctreached : Value} {odreached anreached : Option Addr} {slreached : Array (Option Value)} {freached : Addr}
    {occollect kVcollect dccollect pmcollect cdcollect ctcollect : Value} {odcollect ancollect : Option Addr} {slcollect : Array (Option Value)} {fcollect : Addr}
    {ocStore___init__ kVStore___init__ dcStore___init__ pmStore___init__ cdStore___init__ ctStore___init__ : Value} {odStore___init__ anStore___init__ : Option Addr} {slStore___init__ : Array (Option Value)} {fStore___init__ : Addr}
    {ocStore_used kVStore_used dcStore_used pmStore_used cdStore_used ctStore_used : Value} {odStore_used anStore_used : Option Addr} {slStore_used : Array (Option Value)} {fStore_used : Addr}
    {ocStore_exists kVStore_exists dcStore_exists pmStore_exists cdStore_exists ctStore_exists : Value} {odStore_exists anStore_exists : Option Addr} {slStore_exists : Array (Option Value)} {fStore_exists : Addr}
    {ocStore_numbers kVStore_numbers dcStore_numbers pmStore_numbers cdStore_numbers ctStore_numbers : Value} {odStore_numbers anStore_numbers : Option Addr} {slStore_numbers : Array (Option Value)} {fStore_numbers : Addr}
    {ocStore_free_number kVStore_free_number dcStore_free_number pmStore_free_number cdStore_free_number ctStore_free_number : Value} {odStore_free_number anStore_free_number : Option Addr} {slStore_free_number : Array (Option Value)} {fStore_free_number : Addr}
    {ocStore_allocate kVStore_allocate dcStore_allocate pmStore_allocate cdStore_allocate ctStore_allocate : Value} {odStore_allocate anStore_allocate : Option Addr} {slStore_allocate : Array (Option Value)} {fStore_allocate : Addr}
    {ocStore_size kVStore_size dcStore_size pmStore_size cdStore_size ctStore_size : Value} {odStore_size anStore_size : Option Addr} {slStore_size : Array (Option Value)} {fStore_size : Addr}
    {ocStore_kind kVStore_kind dcStore_kind pmStore_kind cdStore_kind ctStore_kind : Value} {odStore_kind anStore_kind : Option Addr} {slStore_kind : Array (Option Value)} {fStore_kind : Addr}
    {ocStore_set_kind kVStore_set_kind dcStore_set_kind pmStore_set_kind cdStore_set_kind ctStore_set_kind : Value} {odStore_set_kind anStore_set_kind : Option Addr} {slStore_set_kind : Array (Option Value)} {fStore_set_kind : Addr}
    {ocStore_put kVStore_put dcStore_put pmStore_put cdStore_put ctStore_put : Value} {odStore_put anStore_put : Option Addr} {slStore_put : Array (Option Value)} {fStore_put : Addr}
    {ocStore_slots kVStore_slots dcStore_slots pmStore_slots cdStore_slots ctStore_slots : Value} {odStore_slots anStore_slots : Option Addr} {slStore_slots : Array (Option Value)} {fStore_slots : Addr}
    {ocStore_drop kVStore_drop dcStore_drop pmStore_drop cdStore_drop ctStore_drop : Value} {odStore_drop anStore_drop : Option Addr} {slStore_drop : Array (Option Value)} {fStore_drop : Addr}
    {ocStore_close_up kVStore_close_up dcStore_close_up pmStore_close_up cdStore_close_up ctStore_close_up : Value} {odStore_close_up anStore_close_up : Option Addr} {slStore_close_up : Array (Option Value)} {fStore_close_up : Addr}
    {cAStore_close_up PTStore_close_up : Addr} {cclStore_close_up : Value} {cddStore_close_up : Option Addr} {vsStore_close_up : Array Value} {ccsStore_close_up : Array (Option Value)}
    {ocStore_exchange kVStore_exchange dcStore_exchange pmStore_exchange cdStore_exchange ctStore_exchange : Value} {odStore_exchange anStore_exchange : Option Addr} {slStore_exchange : Array (Option Value)} {fStore_exchange : Addr}
    {oc_law_number kV_law_number dc_law_number pm_law_number cd_law_number ct_law_number : Value} {od_law_number an_law_number : Option Addr} {sl_law_number : Array (Option Value)} {f_law_number : Addr}
    {oc_law_word kV_law_word dc_law_word pm_law_word cd_law_word ct_law_word : Value} {od_law_word an_law_word : Option Addr} {sl_law_word : Array (Option Value)} {f_law_word : Addr}
    {oc_law_is kV_law_is dc_law_is pm_law_is cd_law_is ct_law_is : Value} {od_law_is an_law_is : Option Addr} {sl_law_is : Array (Option Value)} {f_law_is : Addr}
    {oc_law_same kV_law_same dc_law_same pm_law_same cd_law_same ct_law_same : Value} {od_law_same an_law_same : Option Addr} {sl_law_same : Array (Option Value)} {f_law_same : Addr}
    {oc_law_living kV_law_living dc_law_living pm_law_living cd_law_living ct_law_living : Value} {od_law_living an_law_living : Option Addr} {sl_law_living : Array (Option Value)} {f_law_living : Addr}
    {oc_law_flat kV_law_flat dc_law_flat pm_law_flat cd_law_flat ct_law_flat : Value} {od_law_flat an_law_flat : Option Addr} {sl_law_flat : Array (Option Value)} {f_law_flat : Addr}
    {oc_law_grown kV_law_grown dc_law_grown pm_law_grown cd_law_grown ct_law_grown : Value} {od_law_grown an_law_grown : Option Addr} {sl_law_grown : Array (Option Value)} {f_law_grown : Addr}
    {oc_law_linked kV_law_linked dc_law_linked pm_law_linked cd_law_linked ct_law_linked : Value} {od_law_linked an_law_linked : Option Addr} {sl_law_linked : Array (Option Value)} {f_law_linked : Addr}
    {oc_law_chained kV_law_chained dc_law_chained pm_law_chained cd_law_chained ct_law_chained : Value} {od_law_chained an_law_chained : Option Addr} {sl_law_chained : Array (Option Value)} {f_law_chained : Addr}
    {oc_law_built kV_law_built dc_law_built pm_law_built cd_law_built ct_law_built : Value} {od_law_built an_law_built : Option Addr} {sl_law_built : Array (Option Value)} {f_law_built : Addr}
    {oc_law_due kV_law_due dc_law_due pm_law_due cd_law_due ct_law_due : Value} {od_law_due an_law_due : Option Addr} {sl_law_due : Array (Option Value)} {f_law_due : Addr}
    {oc_law_roots kV_law_roots dc_law_roots pm_law_roots cd_law_roots ct_law_roots : Value} {od_law_roots an_law_roots : Option Addr} {sl_law_roots : Array (Option Value)} {f_law_roots : Addr}
    {oc_law_free kV_law_free dc_law_free pm_law_free cd_law_free ct_law_free : Value} {od_law_free an_law_free : Option Addr} {sl_law_free : Array (Option Value)} {f_law_free : Addr}
    {oclaw kVlaw dclaw pmlaw cdlaw ctlaw : Value} {odlaw anlaw : Option Addr} {sllaw : Array (Option Value)} {flaw : Addr}
    (z_bool : PySem.W.nsIn K mainGlobals "bool" = some none)
    (z_int : PySem.W.nsIn K mainGlobals "int" = some none)
    (z_isinstance : PySem.W.nsIn K mainGlobals "isinstance" = some none)
    (z_len : PySem.W.nsIn K mainGlobals "len" = some none)
    (z_list : PySem.W.nsIn K mainGlobals "list" = some none)
    (z_min : PySem.W.nsIn K mainGlobals "min" = some none)
    (z_range : PySem.W.nsIn K mainGlobals "range" = some none)
    (z_sorted : PySem.W.nsIn K mainGlobals "sorted" = some none)
    (c_NIL : PySem.W.nsIn K mainGlobals "NIL" = some (some (.int (0) t_NIL)))
    (c_HEADER : PySem.W.nsIn K mainGlobals "HEADER" = some (some (.int (3) t_HEADER)))
    (cl_Store : PySem.W.nsIn K mainGlobals "Store" = some (some (.ref C_Store)))
    (pg_Store : PySem.W.plainGet K C_Store Str.empty = true)
    (hd_Store : PySem.W.hasDictIn K C_Store = true)
    (po_Store : PySem.W.plainOver K C_Store = true)
    (sa_Store : PySem.W.findIn K (.ref C_Store) "__setattr__" = some (some (.builtin "object.__setattr__")))
    (mk_Store : PySem.W.makesIn K C_Store = true)
    (kp_Store : PySem.W.keepIn K (.ref C_Store) = true)
    (na_Store_room : PySem.W.findIn K (.ref C_Store) "room" = some none)
    (na_Store_entries : PySem.W.findIn K (.ref C_Store) "entries" = some none)
    (na_Store_words : PySem.W.findIn K (.ref C_Store) "words" = some none)
    (na_Store__places : PySem.W.findIn K (.ref C_Store) "_places" = some none)
    (na_Store__least : PySem.W.findIn K (.ref C_Store) "_least" = some none)
    (a_is_ref : PySem.W.nsIn K mainGlobals "is_ref" = some (some (.ref fis_ref)))
    (l_is_ref : K.lookup fis_ref = some ⟨ocis_ref, odis_ref, .func (PySem.W.fnOf "is_ref" "is_ref" (defArgs s_is_ref) (defBody s_is_ref) (defScope s_is_ref) .none kVis_ref dcis_ref pmis_ref anis_ref cdis_ref ctis_ref), slis_ref⟩)
    (c_is_ref : PySem.W.codeIn K cdis_ref "is_ref" = true)
    (k_is_ref : PySem.W.keepIn K (.ref fis_ref) = true)
    (a_ref_of : PySem.W.nsIn K mainGlobals "ref_of" = some (some (.ref fref_of)))
    (l_ref_of : K.lookup fref_of = some ⟨ocref_of, odref_of, .func (PySem.W.fnOf "ref_of" "ref_of" (defArgs s_ref_of) (defBody s_ref_of) (defScope s_ref_of) .none kVref_of dcref_of pmref_of anref_of cdref_of ctref_of), slref_of⟩)
    (c_ref_of : PySem.W.codeIn K cdref_of "ref_of" = true)
    (k_ref_of : PySem.W.keepIn K (.ref fref_of) = true)
    (a_reached : PySem.W.nsIn K mainGlobals "reached" = some (some (.ref freached)))
    (l_reached : K.lookup freached = some ⟨ocreached, odreached, .func (PySem.W.fnOf "reached" "reached" (defArgs s_reached) (defBody s_reached) (defScope s_reached) .none kVreached dcreached pmreached anreached cdreached ctreached), slreached⟩)
    (c_reached : PySem.W.codeIn K cdreached "reached" = true)
    (k_reached : PySem.W.keepIn K (.ref freached) = true)
    (a_collect : PySem.W.nsIn K mainGlobals "collect" = some (some (.ref fcollect)))
    (l_collect : K.lookup fcollect = some ⟨occollect, odcollect, .func (PySem.W.fnOf "collect" "collect" (defArgs s_collect) (defBody s_collect) (defScope s_collect) .none kVcollect dccollect pmcollect ancollect cdcollect ctcollect), slcollect⟩)
    (c_collect : PySem.W.codeIn K cdcollect "collect" = true)
    (k_collect : PySem.W.keepIn K (.ref fcollect) = true)
    (a_Store___init__ : PySem.W.findIn K (.ref C_Store) "__init__" = some (some (.ref fStore___init__)))
    (l_Store___init__ : K.lookup fStore___init__ = some ⟨ocStore___init__, odStore___init__, .func (PySem.W.fnOf "__init__" "Store.__init__" (defArgs s_Store___init__) (defBody s_Store___init__) (defScope s_Store___init__) .none kVStore___init__ dcStore___init__ pmStore___init__ anStore___init__ cdStore___init__ ctStore___init__), slStore___init__⟩)
    (c_Store___init__ : PySem.W.codeIn K cdStore___init__ "Store.__init__" = true)
    (k_Store___init__ : PySem.W.keepIn K (.ref fStore___init__) = true)
    (fn_Store___init__ : PySem.W.isFn K (.ref fStore___init__) = true)
    (a_Store_used : PySem.W.findIn K (.ref C_Store) "used" = some (some (.ref fStore_used)))
    (l_Store_used : K.lookup fStore_used = some ⟨ocStore_used, odStore_used, .func (PySem.W.fnOf "used" "Store.used" (defArgs s_Store_used) (defBody s_Store_used) (defScope s_Store_used) .none kVStore_used dcStore_used pmStore_used anStore_used cdStore_used ctStore_used), slStore_used⟩)
    (c_Store_used : PySem.W.codeIn K cdStore_used "Store.used" = true)
    (k_Store_used : PySem.W.keepIn K (.ref fStore_used) = true)
    (fn_Store_used : PySem.W.isFn K (.ref fStore_used) = true)
    (a_Store_exists : PySem.W.findIn K (.ref C_Store) "exists" = some (some (.ref fStore_exists)))
    (l_Store_exists : K.lookup fStore_exists = some ⟨ocStore_exists, odStore_exists, .func (PySem.W.fnOf "exists" "Store.exists" (defArgs s_Store_exists) (defBody s_Store_exists) (defScope s_Store_exists) .none kVStore_exists dcStore_exists pmStore_exists anStore_exists cdStore_exists ctStore_exists), slStore_exists⟩)
    (c_Store_exists : PySem.W.codeIn K cdStore_exists "Store.exists" = true)
    (k_Store_exists : PySem.W.keepIn K (.ref fStore_exists) = true)
    (fn_Store_exists : PySem.W.isFn K (.ref fStore_exists) = true)
    (a_Store_numbers : PySem.W.findIn K (.ref C_Store) "numbers" = some (some (.ref fStore_numbers)))
    (l_Store_numbers : K.lookup fStore_numbers = some ⟨ocStore_numbers, odStore_numbers, .func (PySem.W.fnOf "numbers" "Store.numbers" (defArgs s_Store_numbers) (defBody s_Store_numbers) (defScope s_Store_numbers) .none kVStore_numbers dcStore_numbers pmStore_numbers anStore_numbers cdStore_numbers ctStore_numbers), slStore_numbers⟩)
    (c_Store_numbers : PySem.W.codeIn K cdStore_numbers "Store.numbers" = true)
    (k_Store_numbers : PySem.W.keepIn K (.ref fStore_numbers) = true)
    (fn_Store_numbers : PySem.W.isFn K (.ref fStore_numbers) = true)
    (a_Store_free_number : PySem.W.findIn K (.ref C_Store) "free_number" = some (some (.ref fStore_free_number)))
    (l_Store_free_number : K.lookup fStore_free_number = some ⟨ocStore_free_number, odStore_free_number, .func (PySem.W.fnOf "free_number" "Store.free_number" (defArgs s_Store_free_number) (defBody s_Store_free_number) (defScope s_Store_free_number) .none kVStore_free_number dcStore_free_number pmStore_free_number anStore_free_number cdStore_free_number ctStore_free_number), slStore_free_number⟩)
    (c_Store_free_number : PySem.W.codeIn K cdStore_free_number "Store.free_number" = true)
    (k_Store_free_number : PySem.W.keepIn K (.ref fStore_free_number) = true)
    (fn_Store_free_number : PySem.W.isFn K (.ref fStore_free_number) = true)
    (a_Store_allocate : PySem.W.findIn K (.ref C_Store) "allocate" = some (some (.ref fStore_allocate)))
    (l_Store_allocate : K.lookup fStore_allocate = some ⟨ocStore_allocate, odStore_allocate, .func (PySem.W.fnOf "allocate" "Store.allocate" (defArgs s_Store_allocate) (defBody s_Store_allocate) (defScope s_Store_allocate) .none kVStore_allocate dcStore_allocate pmStore_allocate anStore_allocate cdStore_allocate ctStore_allocate), slStore_allocate⟩)
    (c_Store_allocate : PySem.W.codeIn K cdStore_allocate "Store.allocate" = true)
    (k_Store_allocate : PySem.W.keepIn K (.ref fStore_allocate) = true)
    (fn_Store_allocate : PySem.W.isFn K (.ref fStore_allocate) = true)
    (a_Store_size : PySem.W.findIn K (.ref C_Store) "size" = some (some (.ref fStore_size)))
    (l_Store_size : K.lookup fStore_size = some ⟨ocStore_size, odStore_size, .func (PySem.W.fnOf "size" "Store.size" (defArgs s_Store_size) (defBody s_Store_size) (defScope s_Store_size) .none kVStore_size dcStore_size pmStore_size anStore_size cdStore_size ctStore_size), slStore_size⟩)
    (c_Store_size : PySem.W.codeIn K cdStore_size "Store.size" = true)
    (k_Store_size : PySem.W.keepIn K (.ref fStore_size) = true)
    (fn_Store_size : PySem.W.isFn K (.ref fStore_size) = true)
    (a_Store_kind : PySem.W.findIn K (.ref C_Store) "kind" = some (some (.ref fStore_kind)))
    (l_Store_kind : K.lookup fStore_kind = some ⟨ocStore_kind, odStore_kind, .func (PySem.W.fnOf "kind" "Store.kind" (defArgs s_Store_kind) (defBody s_Store_kind) (defScope s_Store_kind) .none kVStore_kind dcStore_kind pmStore_kind anStore_kind cdStore_kind ctStore_kind), slStore_kind⟩)
    (c_Store_kind : PySem.W.codeIn K cdStore_kind "Store.kind" = true)
    (k_Store_kind : PySem.W.keepIn K (.ref fStore_kind) = true)
    (fn_Store_kind : PySem.W.isFn K (.ref fStore_kind) = true)
    (a_Store_set_kind : PySem.W.findIn K (.ref C_Store) "set_kind" = some (some (.ref fStore_set_kind)))
    (l_Store_set_kind : K.lookup fStore_set_kind = some ⟨ocStore_set_kind, odStore_set_kind, .func (PySem.W.fnOf "set_kind" "Store.set_kind" (defArgs s_Store_set_kind) (defBody s_Store_set_kind) (defScope s_Store_set_kind) .none kVStore_set_kind dcStore_set_kind pmStore_set_kind anStore_set_kind cdStore_set_kind ctStore_set_kind), slStore_set_kind⟩)
    (c_Store_set_kind : PySem.W.codeIn K cdStore_set_kind "Store.set_kind" = true)
    (k_Store_set_kind : PySem.W.keepIn K (.ref fStore_set_kind) = true)
    (fn_Store_set_kind : PySem.W.isFn K (.ref fStore_set_kind) = true)
    (a_Store_put : PySem.W.findIn K (.ref C_Store) "put" = some (some (.ref fStore_put)))
    (l_Store_put : K.lookup fStore_put = some ⟨ocStore_put, odStore_put, .func (PySem.W.fnOf "put" "Store.put" (defArgs s_Store_put) (defBody s_Store_put) (defScope s_Store_put) .none kVStore_put dcStore_put pmStore_put anStore_put cdStore_put ctStore_put), slStore_put⟩)
    (c_Store_put : PySem.W.codeIn K cdStore_put "Store.put" = true)
    (k_Store_put : PySem.W.keepIn K (.ref fStore_put) = true)
    (fn_Store_put : PySem.W.isFn K (.ref fStore_put) = true)
    (a_Store_slots : PySem.W.findIn K (.ref C_Store) "slots" = some (some (.ref fStore_slots)))
    (l_Store_slots : K.lookup fStore_slots = some ⟨ocStore_slots, odStore_slots, .func (PySem.W.fnOf "slots" "Store.slots" (defArgs s_Store_slots) (defBody s_Store_slots) (defScope s_Store_slots) .none kVStore_slots dcStore_slots pmStore_slots anStore_slots cdStore_slots ctStore_slots), slStore_slots⟩)
    (c_Store_slots : PySem.W.codeIn K cdStore_slots "Store.slots" = true)
    (k_Store_slots : PySem.W.keepIn K (.ref fStore_slots) = true)
    (fn_Store_slots : PySem.W.isFn K (.ref fStore_slots) = true)
    (a_Store_drop : PySem.W.findIn K (.ref C_Store) "drop" = some (some (.ref fStore_drop)))
    (l_Store_drop : K.lookup fStore_drop = some ⟨ocStore_drop, odStore_drop, .func (PySem.W.fnOf "drop" "Store.drop" (defArgs s_Store_drop) (defBody s_Store_drop) (defScope s_Store_drop) .none kVStore_drop dcStore_drop pmStore_drop anStore_drop cdStore_drop ctStore_drop), slStore_drop⟩)
    (c_Store_drop : PySem.W.codeIn K cdStore_drop "Store.drop" = true)
    (k_Store_drop : PySem.W.keepIn K (.ref fStore_drop) = true)
    (fn_Store_drop : PySem.W.isFn K (.ref fStore_drop) = true)
    (a_Store_close_up : PySem.W.findIn K (.ref C_Store) "close_up" = some (some (.ref fStore_close_up)))
    (l_Store_close_up : K.lookup fStore_close_up = some ⟨ocStore_close_up, odStore_close_up, .func (PySem.W.fnOf "close_up" "Store.close_up" (defArgs s_Store_close_up) (defBody s_Store_close_up) (defScope s_Store_close_up) .none kVStore_close_up dcStore_close_up pmStore_close_up anStore_close_up (.ref cAStore_close_up) ctStore_close_up), slStore_close_up⟩)
    (c_Store_close_up : PySem.W.codeIn K (.ref cAStore_close_up) "Store.close_up" = true)
    (k_Store_close_up : PySem.W.keepIn K (.ref fStore_close_up) = true)
    (x1_Store_close_up : K.lookup cAStore_close_up = some ⟨cclStore_close_up, cddStore_close_up, .fields vsStore_close_up, ccsStore_close_up⟩)
    (x2_Store_close_up : vsStore_close_up[11]? = some (.ref PTStore_close_up))
    (x3_Store_close_up : PySem.W.codeHdIn K cAStore_close_up PTStore_close_up = true)
    (x4_Store_close_up : K.lookup PTStore_close_up = none)
    (fn_Store_close_up : PySem.W.isFn K (.ref fStore_close_up) = true)
    (a_Store_exchange : PySem.W.findIn K (.ref C_Store) "exchange" = some (some (.ref fStore_exchange)))
    (l_Store_exchange : K.lookup fStore_exchange = some ⟨ocStore_exchange, odStore_exchange, .func (PySem.W.fnOf "exchange" "Store.exchange" (defArgs s_Store_exchange) (defBody s_Store_exchange) (defScope s_Store_exchange) .none kVStore_exchange dcStore_exchange pmStore_exchange anStore_exchange cdStore_exchange ctStore_exchange), slStore_exchange⟩)
    (c_Store_exchange : PySem.W.codeIn K cdStore_exchange "Store.exchange" = true)
    (k_Store_exchange : PySem.W.keepIn K (.ref fStore_exchange) = true)
    (fn_Store_exchange : PySem.W.isFn K (.ref fStore_exchange) = true)
    (a__law_number : PySem.W.nsIn K mainGlobals "_law_number" = some (some (.ref f_law_number)))
    (l__law_number : K.lookup f_law_number = some ⟨oc_law_number, od_law_number, .func (PySem.W.fnOf "_law_number" "_law_number" (defArgs s__law_number) (defBody s__law_number) (defScope s__law_number) .none kV_law_number dc_law_number pm_law_number an_law_number cd_law_number ct_law_number), sl_law_number⟩)
    (c__law_number : PySem.W.codeIn K cd_law_number "_law_number" = true)
    (k__law_number : PySem.W.keepIn K (.ref f_law_number) = true)
    (a__law_word : PySem.W.nsIn K mainGlobals "_law_word" = some (some (.ref f_law_word)))
    (l__law_word : K.lookup f_law_word = some ⟨oc_law_word, od_law_word, .func (PySem.W.fnOf "_law_word" "_law_word" (defArgs s__law_word) (defBody s__law_word) (defScope s__law_word) .none kV_law_word dc_law_word pm_law_word an_law_word cd_law_word ct_law_word), sl_law_word⟩)
    (c__law_word : PySem.W.codeIn K cd_law_word "_law_word" = true)
    (k__law_word : PySem.W.keepIn K (.ref f_law_word) = true)
    (a__law_is : PySem.W.nsIn K mainGlobals "_law_is" = some (some (.ref f_law_is)))
    (l__law_is : K.lookup f_law_is = some ⟨oc_law_is, od_law_is, .func (PySem.W.fnOf "_law_is" "_law_is" (defArgs s__law_is) (defBody s__law_is) (defScope s__law_is) .none kV_law_is dc_law_is pm_law_is an_law_is cd_law_is ct_law_is), sl_law_is⟩)
    (c__law_is : PySem.W.codeIn K cd_law_is "_law_is" = true)
    (k__law_is : PySem.W.keepIn K (.ref f_law_is) = true)
    (a__law_same : PySem.W.nsIn K mainGlobals "_law_same" = some (some (.ref f_law_same)))
    (l__law_same : K.lookup f_law_same = some ⟨oc_law_same, od_law_same, .func (PySem.W.fnOf "_law_same" "_law_same" (defArgs s__law_same) (defBody s__law_same) (defScope s__law_same) .none kV_law_same dc_law_same pm_law_same an_law_same cd_law_same ct_law_same), sl_law_same⟩)
    (c__law_same : PySem.W.codeIn K cd_law_same "_law_same" = true)
    (k__law_same : PySem.W.keepIn K (.ref f_law_same) = true)
    (a__law_living : PySem.W.nsIn K mainGlobals "_law_living" = some (some (.ref f_law_living)))
    (l__law_living : K.lookup f_law_living = some ⟨oc_law_living, od_law_living, .func (PySem.W.fnOf "_law_living" "_law_living" (defArgs s__law_living) (defBody s__law_living) (defScope s__law_living) .none kV_law_living dc_law_living pm_law_living an_law_living cd_law_living ct_law_living), sl_law_living⟩)
    (c__law_living : PySem.W.codeIn K cd_law_living "_law_living" = true)
    (k__law_living : PySem.W.keepIn K (.ref f_law_living) = true)
    (a__law_flat : PySem.W.nsIn K mainGlobals "_law_flat" = some (some (.ref f_law_flat)))
    (l__law_flat : K.lookup f_law_flat = some ⟨oc_law_flat, od_law_flat, .func (PySem.W.fnOf "_law_flat" "_law_flat" (defArgs s__law_flat) (defBody s__law_flat) (defScope s__law_flat) .none kV_law_flat dc_law_flat pm_law_flat an_law_flat cd_law_flat ct_law_flat), sl_law_flat⟩)
    (c__law_flat : PySem.W.codeIn K cd_law_flat "_law_flat" = true)
    (k__law_flat : PySem.W.keepIn K (.ref f_law_flat) = true)
    (a__law_grown : PySem.W.nsIn K mainGlobals "_law_grown" = some (some (.ref f_law_grown)))
    (l__law_grown : K.lookup f_law_grown = some ⟨oc_law_grown, od_law_grown, .func (PySem.W.fnOf "_law_grown" "_law_grown" (defArgs s__law_grown) (defBody s__law_grown) (defScope s__law_grown) .none kV_law_grown dc_law_grown pm_law_grown an_law_grown cd_law_grown ct_law_grown), sl_law_grown⟩)
    (c__law_grown : PySem.W.codeIn K cd_law_grown "_law_grown" = true)
    (k__law_grown : PySem.W.keepIn K (.ref f_law_grown) = true)
    (a__law_linked : PySem.W.nsIn K mainGlobals "_law_linked" = some (some (.ref f_law_linked)))
    (l__law_linked : K.lookup f_law_linked = some ⟨oc_law_linked, od_law_linked, .func (PySem.W.fnOf "_law_linked" "_law_linked" (defArgs s__law_linked) (defBody s__law_linked) (defScope s__law_linked) .none kV_law_linked dc_law_linked pm_law_linked an_law_linked cd_law_linked ct_law_linked), sl_law_linked⟩)
    (c__law_linked : PySem.W.codeIn K cd_law_linked "_law_linked" = true)
    (k__law_linked : PySem.W.keepIn K (.ref f_law_linked) = true)
    (a__law_chained : PySem.W.nsIn K mainGlobals "_law_chained" = some (some (.ref f_law_chained)))
    (l__law_chained : K.lookup f_law_chained = some ⟨oc_law_chained, od_law_chained, .func (PySem.W.fnOf "_law_chained" "_law_chained" (defArgs s__law_chained) (defBody s__law_chained) (defScope s__law_chained) .none kV_law_chained dc_law_chained pm_law_chained an_law_chained cd_law_chained ct_law_chained), sl_law_chained⟩)
    (c__law_chained : PySem.W.codeIn K cd_law_chained "_law_chained" = true)
    (k__law_chained : PySem.W.keepIn K (.ref f_law_chained) = true)
    (a__law_built : PySem.W.nsIn K mainGlobals "_law_built" = some (some (.ref f_law_built)))
    (l__law_built : K.lookup f_law_built = some ⟨oc_law_built, od_law_built, .func (PySem.W.fnOf "_law_built" "_law_built" (defArgs s__law_built) (defBody s__law_built) (defScope s__law_built) .none kV_law_built dc_law_built pm_law_built an_law_built cd_law_built ct_law_built), sl_law_built⟩)
    (c__law_built : PySem.W.codeIn K cd_law_built "_law_built" = true)
    (k__law_built : PySem.W.keepIn K (.ref f_law_built) = true)
    (a__law_due : PySem.W.nsIn K mainGlobals "_law_due" = some (some (.ref f_law_due)))
    (l__law_due : K.lookup f_law_due = some ⟨oc_law_due, od_law_due, .func (PySem.W.fnOf "_law_due" "_law_due" (defArgs s__law_due) (defBody s__law_due) (defScope s__law_due) .none kV_law_due dc_law_due pm_law_due an_law_due cd_law_due ct_law_due), sl_law_due⟩)
    (c__law_due : PySem.W.codeIn K cd_law_due "_law_due" = true)
    (k__law_due : PySem.W.keepIn K (.ref f_law_due) = true)
    (a__law_roots : PySem.W.nsIn K mainGlobals "_law_roots" = some (some (.ref f_law_roots)))
    (l__law_roots : K.lookup f_law_roots = some ⟨oc_law_roots, od_law_roots, .func (PySem.W.fnOf "_law_roots" "_law_roots" (defArgs s__law_roots) (defBody s__law_roots) (defScope s__law_roots) .none kV_law_roots dc_law_roots pm_law_roots an_law_roots cd_law_roots ct_law_roots), sl_law_roots⟩)
    (c__law_roots : PySem.W.codeIn K cd_law_roots "_law_roots" = true)
    (k__law_roots : PySem.W.keepIn K (.ref f_law_roots) = true)
    (a__law_free : PySem.W.nsIn K mainGlobals "_law_free" = some (some (.ref f_law_free)))
    (l__law_free : K.lookup f_law_free = some ⟨oc_law_free, od_law_free, .func (PySem.W.fnOf "_law_free" "_law_free" (defArgs s__law_free) (defBody s__law_free) (defScope s__law_free) .none kV_law_free dc_law_free pm_law_free an_law_free cd_law_free ct_law_free), sl_law_free⟩)
    (c__law_free : PySem.W.codeIn K cd_law_free "_law_free" = true)
    (k__law_free : PySem.W.keepIn K (.ref f_law_free) = true)
    (a_law : PySem.W.nsIn K mainGlobals "law" = some (some (.ref flaw)))
    (l_law : K.lookup flaw = some ⟨oclaw, odlaw, .func (PySem.W.fnOf "law" "law" (defArgs s_law) (defBody s_law) (defScope s_law) .none kVlaw dclaw pmlaw anlaw cdlaw ctlaw), sllaw⟩)
    (c_law : PySem.W.codeIn K cdlaw "law" = true)
    (k_law : PySem.W.keepIn K (.ref flaw) = true) : Wd l.prog K mg :=
  { n_bool := PySem.W.mg_none_of X G z_bool,
    n_int := PySem.W.mg_none_of X G z_int,
    n_isinstance := PySem.W.mg_none_of X G z_isinstance,
    n_len := PySem.W.mg_none_of X G z_len,
    n_list := PySem.W.mg_none_of X G z_list,
    n_min := PySem.W.mg_none_of X G z_min,
    n_range := PySem.W.mg_none_of X G z_range,
    n_sorted := PySem.W.mg_none_of X G z_sorted,
    t_NIL := t_NIL, g_NIL := PySem.W.mg_of X G c_NIL,
    t_HEADER := t_HEADER, g_HEADER := PySem.W.mg_of X G c_HEADER,
    c_Store := C_Store, g_Store := PySem.W.mg_of X G cl_Store,
    C_Store := ⟨pg_Store, hd_Store, po_Store, sa_Store⟩,
    na_Store_room := na_Store_room,
    na_Store_entries := na_Store_entries,
    na_Store_words := na_Store_words,
    na_Store__places := na_Store__places,
    na_Store__least := na_Store__least,
    f_is_ref := fis_ref, fd_is_ref := _, F_is_ref := fun_mk (st := s_is_ref) l_is_ref c_is_ref k_is_ref,
    g_is_ref := PySem.W.mg_of X G a_is_ref,
    b_is_ref := (fun_mk (st := s_is_ref) l_is_ref c_is_ref k_is_ref).binds (ps := ["word"]) fun _ _ _ _ _ _ us hl => match us, hl with | [_], _ => rfl,
    f_ref_of := fref_of, fd_ref_of := _, F_ref_of := fun_mk (st := s_ref_of) l_ref_of c_ref_of k_ref_of,
    g_ref_of := PySem.W.mg_of X G a_ref_of,
    b_ref_of := (fun_mk (st := s_ref_of) l_ref_of c_ref_of k_ref_of).binds (ps := ["word"]) fun _ _ _ _ _ _ us hl => match us, hl with | [_], _ => rfl,
    f_reached := freached, fd_reached := _, F_reached := fun_mk (st := s_reached) l_reached c_reached k_reached,
    g_reached := PySem.W.mg_of X G a_reached,
    b_reached := (fun_mk (st := s_reached) l_reached c_reached k_reached).binds (ps := ["store", "roots"]) fun _ _ _ _ _ _ us hl => match us, hl with | [_, _], _ => rfl,
    f_collect := fcollect, fd_collect := _, F_collect := fun_mk (st := s_collect) l_collect c_collect k_collect,
    g_collect := PySem.W.mg_of X G a_collect,
    b_collect := (fun_mk (st := s_collect) l_collect c_collect k_collect).binds (ps := ["store", "roots"]) fun _ _ _ _ _ _ us hl => match us, hl with | [_, _], _ => rfl,
    f_Store___init__ := fStore___init__, fd_Store___init__ := _, F_Store___init__ := fun_mk (st := s_Store___init__) l_Store___init__ c_Store___init__ k_Store___init__,
    M_Store := ⟨mk_Store, a_Store___init__, fn_Store___init__, kp_Store⟩,
    b_Store___init__ := (fun_mk (st := s_Store___init__) l_Store___init__ c_Store___init__ k_Store___init__).binds (ps := ["self", "room", "entries"]) fun _ _ _ _ _ _ us hl => match us, hl with | [_, _, _], _ => rfl,
    f_Store_used := fStore_used, fd_Store_used := _, F_Store_used := fun_mk (st := s_Store_used) l_Store_used c_Store_used k_Store_used,
    m_Store_used := ⟨a_Store_used, fn_Store_used, k_Store_used⟩,
    b_Store_used := (fun_mk (st := s_Store_used) l_Store_used c_Store_used k_Store_used).binds (ps := ["self"]) fun _ _ _ _ _ _ us hl => match us, hl with | [_], _ => rfl,
    f_Store_exists := fStore_exists, fd_Store_exists := _, F_Store_exists := fun_mk (st := s_Store_exists) l_Store_exists c_Store_exists k_Store_exists,
    m_Store_exists := ⟨a_Store_exists, fn_Store_exists, k_Store_exists⟩,
    b_Store_exists := (fun_mk (st := s_Store_exists) l_Store_exists c_Store_exists k_Store_exists).binds (ps := ["self", "number"]) fun _ _ _ _ _ _ us hl => match us, hl with | [_, _], _ => rfl,
    f_Store_numbers := fStore_numbers, fd_Store_numbers := _, F_Store_numbers := fun_mk (st := s_Store_numbers) l_Store_numbers c_Store_numbers k_Store_numbers,
    m_Store_numbers := ⟨a_Store_numbers, fn_Store_numbers, k_Store_numbers⟩,
    b_Store_numbers := (fun_mk (st := s_Store_numbers) l_Store_numbers c_Store_numbers k_Store_numbers).binds (ps := ["self"]) fun _ _ _ _ _ _ us hl => match us, hl with | [_], _ => rfl,
    f_Store_free_number := fStore_free_number, fd_Store_free_number := _, F_Store_free_number := fun_mk (st := s_Store_free_number) l_Store_free_number c_Store_free_number k_Store_free_number,
    m_Store_free_number := ⟨a_Store_free_number, fn_Store_free_number, k_Store_free_number⟩,
    b_Store_free_number := (fun_mk (st := s_Store_free_number) l_Store_free_number c_Store_free_number k_Store_free_number).binds (ps := ["self"]) fun _ _ _ _ _ _ us hl => match us, hl with | [_], _ => rfl,
    f_Store_allocate := fStore_allocate, fd_Store_allocate := _, F_Store_allocate := fun_mk (st := s_Store_allocate) l_Store_allocate c_Store_allocate k_Store_allocate,
    m_Store_allocate := ⟨a_Store_allocate, fn_Store_allocate, k_Store_allocate⟩,
    b_Store_allocate := (fun_mk (st := s_Store_allocate) l_Store_allocate c_Store_allocate k_Store_allocate).binds (ps := ["self", "kind", "size"]) fun _ _ _ _ _ _ us hl => match us, hl with | [_, _, _], _ => rfl,
    f_Store_size := fStore_size, fd_Store_size := _, F_Store_size := fun_mk (st := s_Store_size) l_Store_size c_Store_size k_Store_size,
    m_Store_size := ⟨a_Store_size, fn_Store_size, k_Store_size⟩,
    b_Store_size := (fun_mk (st := s_Store_size) l_Store_size c_Store_size k_Store_size).binds (ps := ["self", "number"]) fun _ _ _ _ _ _ us hl => match us, hl with | [_, _], _ => rfl,
    f_Store_kind := fStore_kind, fd_Store_kind := _, F_Store_kind := fun_mk (st := s_Store_kind) l_Store_kind c_Store_kind k_Store_kind,
    m_Store_kind := ⟨a_Store_kind, fn_Store_kind, k_Store_kind⟩,
    b_Store_kind := (fun_mk (st := s_Store_kind) l_Store_kind c_Store_kind k_Store_kind).binds (ps := ["self", "number"]) fun _ _ _ _ _ _ us hl => match us, hl with | [_, _], _ => rfl,
    f_Store_set_kind := fStore_set_kind, fd_Store_set_kind := _, F_Store_set_kind := fun_mk (st := s_Store_set_kind) l_Store_set_kind c_Store_set_kind k_Store_set_kind,
    m_Store_set_kind := ⟨a_Store_set_kind, fn_Store_set_kind, k_Store_set_kind⟩,
    b_Store_set_kind := (fun_mk (st := s_Store_set_kind) l_Store_set_kind c_Store_set_kind k_Store_set_kind).binds (ps := ["self", "number", "word"]) fun _ _ _ _ _ _ us hl => match us, hl with | [_, _, _], _ => rfl,
    f_Store_put := fStore_put, fd_Store_put := _, F_Store_put := fun_mk (st := s_Store_put) l_Store_put c_Store_put k_Store_put,
    m_Store_put := ⟨a_Store_put, fn_Store_put, k_Store_put⟩,
    b_Store_put := (fun_mk (st := s_Store_put) l_Store_put c_Store_put k_Store_put).binds (ps := ["self", "number", "at", "word"]) fun _ _ _ _ _ _ us hl => match us, hl with | [_, _, _, _], _ => rfl,
    f_Store_slots := fStore_slots, fd_Store_slots := _, F_Store_slots := fun_mk (st := s_Store_slots) l_Store_slots c_Store_slots k_Store_slots,
    m_Store_slots := ⟨a_Store_slots, fn_Store_slots, k_Store_slots⟩,
    b_Store_slots := (fun_mk (st := s_Store_slots) l_Store_slots c_Store_slots k_Store_slots).binds (ps := ["self", "number"]) fun _ _ _ _ _ _ us hl => match us, hl with | [_, _], _ => rfl,
    f_Store_drop := fStore_drop, fd_Store_drop := _, F_Store_drop := fun_mk (st := s_Store_drop) l_Store_drop c_Store_drop k_Store_drop,
    m_Store_drop := ⟨a_Store_drop, fn_Store_drop, k_Store_drop⟩,
    b_Store_drop := (fun_mk (st := s_Store_drop) l_Store_drop c_Store_drop k_Store_drop).binds (ps := ["self", "number"]) fun _ _ _ _ _ _ us hl => match us, hl with | [_, _], _ => rfl,
    f_Store_close_up := fStore_close_up, fd_Store_close_up := _, F_Store_close_up := fun_mk (st := s_Store_close_up) l_Store_close_up c_Store_close_up k_Store_close_up, cA_Store_close_up := cAStore_close_up, PT_Store_close_up := PTStore_close_up, hd_Store_close_up := x3_Store_close_up, np_Store_close_up := x4_Store_close_up, G_Store_close_up := ⟨_, _, _, _, _, _, _, _, rfl, l_Store_close_up, c_Store_close_up⟩,
    m_Store_close_up := ⟨a_Store_close_up, fn_Store_close_up, k_Store_close_up⟩,
    b_Store_close_up := (fun_mk (st := s_Store_close_up) l_Store_close_up c_Store_close_up k_Store_close_up).binds (ps := ["self"]) fun _ _ _ _ _ _ us hl => match us, hl with | [_], _ => rfl,
    f_Store_exchange := fStore_exchange, fd_Store_exchange := _, F_Store_exchange := fun_mk (st := s_Store_exchange) l_Store_exchange c_Store_exchange k_Store_exchange,
    m_Store_exchange := ⟨a_Store_exchange, fn_Store_exchange, k_Store_exchange⟩,
    b_Store_exchange := (fun_mk (st := s_Store_exchange) l_Store_exchange c_Store_exchange k_Store_exchange).binds (ps := ["self", "first", "second"]) fun _ _ _ _ _ _ us hl => match us, hl with | [_, _, _], _ => rfl,
    f__law_number := f_law_number, fd__law_number := _, F__law_number := fun_mk (st := s__law_number) l__law_number c__law_number k__law_number,
    g__law_number := PySem.W.mg_of X G a__law_number,
    b__law_number := (fun_mk (st := s__law_number) l__law_number c__law_number k__law_number).binds (ps := ["_law_cell", "_law_k"]) fun _ _ _ _ _ _ us hl => match us, hl with | [_, _], _ => rfl,
    f__law_word := f_law_word, fd__law_word := _, F__law_word := fun_mk (st := s__law_word) l__law_word c__law_word k__law_word,
    g__law_word := PySem.W.mg_of X G a__law_word,
    b__law_word := (fun_mk (st := s__law_word) l__law_word c__law_word k__law_word).binds (ps := ["_law_x", "_law_many"]) fun _ _ _ _ _ _ us hl => match us, hl with | [_, _], _ => rfl,
    f__law_is := f_law_is, fd__law_is := _, F__law_is := fun_mk (st := s__law_is) l__law_is c__law_is k__law_is,
    g__law_is := PySem.W.mg_of X G a__law_is,
    b__law_is := (fun_mk (st := s__law_is) l__law_is c__law_is k__law_is).binds (ps := ["_law_actual", "_law_due_here"]) fun _ _ _ _ _ _ us hl => match us, hl with | [_, _], _ => rfl,
    f__law_same := f_law_same, fd__law_same := _, F__law_same := fun_mk (st := s__law_same) l__law_same c__law_same k__law_same,
    g__law_same := PySem.W.mg_of X G a__law_same,
    b__law_same := (fun_mk (st := s__law_same) l__law_same c__law_same k__law_same).binds (ps := ["_law_actual", "_law_due_here"]) fun _ _ _ _ _ _ us hl => match us, hl with | [_, _], _ => rfl,
    f__law_living := f_law_living, fd__law_living := _, F__law_living := fun_mk (st := s__law_living) l__law_living c__law_living k__law_living,
    g__law_living := PySem.W.mg_of X G a__law_living,
    b__law_living := (fun_mk (st := s__law_living) l__law_living c__law_living k__law_living).binds (ps := ["_law_row"]) fun _ _ _ _ _ _ us hl => match us, hl with | [_], _ => rfl,
    f__law_flat := f_law_flat, fd__law_flat := _, F__law_flat := fun_mk (st := s__law_flat) l__law_flat c__law_flat k__law_flat,
    g__law_flat := PySem.W.mg_of X G a__law_flat,
    b__law_flat := (fun_mk (st := s__law_flat) l__law_flat c__law_flat k__law_flat).binds (ps := ["_law_row"]) fun _ _ _ _ _ _ us hl => match us, hl with | [_], _ => rfl,
    f__law_grown := f_law_grown, fd__law_grown := _, F__law_grown := fun_mk (st := s__law_grown) l__law_grown c__law_grown k__law_grown,
    g__law_grown := PySem.W.mg_of X G a__law_grown,
    b__law_grown := (fun_mk (st := s__law_grown) l__law_grown c__law_grown k__law_grown).binds (ps := ["_law_store", "_law_row", "_law_x"]) fun _ _ _ _ _ _ us hl => match us, hl with | [_, _, _], _ => rfl,
    f__law_linked := f_law_linked, fd__law_linked := _, F__law_linked := fun_mk (st := s__law_linked) l__law_linked c__law_linked k__law_linked,
    g__law_linked := PySem.W.mg_of X G a__law_linked,
    b__law_linked := (fun_mk (st := s__law_linked) l__law_linked c__law_linked k__law_linked).binds (ps := ["_law_store", "_law_row", "_law_x"]) fun _ _ _ _ _ _ us hl => match us, hl with | [_, _, _], _ => rfl,
    f__law_chained := f_law_chained, fd__law_chained := _, F__law_chained := fun_mk (st := s__law_chained) l__law_chained c__law_chained k__law_chained,
    g__law_chained := PySem.W.mg_of X G a__law_chained,
    b__law_chained := (fun_mk (st := s__law_chained) l__law_chained c__law_chained k__law_chained).binds (ps := ["_law_store", "_law_row"]) fun _ _ _ _ _ _ us hl => match us, hl with | [_, _], _ => rfl,
    f__law_built := f_law_built, fd__law_built := _, F__law_built := fun_mk (st := s__law_built) l__law_built c__law_built k__law_built,
    g__law_built := PySem.W.mg_of X G a__law_built,
    b__law_built := (fun_mk (st := s__law_built) l__law_built c__law_built k__law_built).binds (ps := ["_law_store", "_law_cells"]) fun _ _ _ _ _ _ us hl => match us, hl with | [_, _], _ => rfl,
    f__law_due := f_law_due, fd__law_due := _, F__law_due := fun_mk (st := s__law_due) l__law_due c__law_due k__law_due,
    g__law_due := PySem.W.mg_of X G a__law_due,
    b__law_due := (fun_mk (st := s__law_due) l__law_due c__law_due k__law_due).binds (ps := ["_law_row", "_law_roots_here"]) fun _ _ _ _ _ _ us hl => match us, hl with | [_, _], _ => rfl,
    f__law_roots := f_law_roots, fd__law_roots := _, F__law_roots := fun_mk (st := s__law_roots) l__law_roots c__law_roots k__law_roots,
    g__law_roots := PySem.W.mg_of X G a__law_roots,
    b__law_roots := (fun_mk (st := s__law_roots) l__law_roots c__law_roots k__law_roots).binds (ps := ["_law_row", "_law_cells"]) fun _ _ _ _ _ _ us hl => match us, hl with | [_, _], _ => rfl,
    f__law_free := f_law_free, fd__law_free := _, F__law_free := fun_mk (st := s__law_free) l__law_free c__law_free k__law_free,
    g__law_free := PySem.W.mg_of X G a__law_free,
    b__law_free := (fun_mk (st := s__law_free) l__law_free c__law_free k__law_free).binds (ps := ["_law_numbers"]) fun _ _ _ _ _ _ us hl => match us, hl with | [_], _ => rfl,
    f_law := flaw, fd_law := _, F_law := fun_mk (st := s_law) l_law c_law k_law,
    g_law := PySem.W.mg_of X G a_law,
    b_law := (fun_mk (st := s_law) l_law c_law k_law).binds (ps := ["_law_script"]) fun _ _ _ _ _ _ us hl => match us, hl with | [_], _ => rfl }

structure WT (P : Program) (K : PySem.W.Frag) (mg : Str → Option Value) (base : Heap) extends Wd P K mg where
  TB : LamX.TabB base mg cA_Store_close_up PT_Store_close_up
abbrev qLam : Str := (envOfC "Store.close_up" (defScope s_Store_close_up) 0 0 .none).qual ++ "<lambda>"

end LX
namespace LX
open PySem PySem.Spec PyProof.Rows L2 NdefX
section
variable {P : Program} {w : World} {K : PySem.W.Frag} {mg : Str → Option Value} {base : Heap}
/-! ### the store's own state -/
def sF (room entries : Int) (wl pl : Addr) (least : Int) : List (Str × V) := [("room", .int room), ("entries", .int entries), ("words", .ref wl), ("_places", .ref pl), ("_least", .int least)]
structure StoreAt (H : Hp) (C st dx wl pl : Addr) (room entries least : Int) (ws : List Int) (kvs : List (Key × V)) : Prop where
  st : H st = some (.ins C dx (sF room entries wl pl least))
  wl : H wl = some (.lst (ws.map V.int))
  pl : H pl = some (.dK kvs)
theorem int_at {ws : List Int} {i : Nat} {z : Int} (h : ws[i]? = some z) : (ws.map V.int)[i]? = some (V.int z) := by rw [List.getElem?_map, h]; rfl
theorem ixN_nat {n i : Nat} (h : i < n) : ixN n (i : Int) = some i := by
  unfold ixN
  rw [if_pos (by omega), if_pos (by omega)]
  simp
def sp_exists : Addr → Sp := fun C vs H Q _ => ∃ st dx wl pl room entries least ws kvs n, vs = [.ref st, .int n] ∧ StoreAt H C st dx wl pl room entries least ws kvs ∧ Q (.bl (valV kvs (.inl n)).isSome) H
theorem ok_Store_exists (W : WT P K mg base) : FnOk P w K mg base CX0 1 W.f_Store_exists W.fd_Store_exists ["self", "number"] (sp_exists W.c_Store) := by
  refine W.F_Store_exists.ok sc_Store_exists (fun vs H Q E h => ?_) (fun cdv A outer s H vs Q E hr h => ?_)
  · obtain ⟨st, dx, wl, pl, room, entries, least, ws, kvs, n, rfl, _⟩ := h
    rfl
  · obtain ⟨st, dx, wl, pl, room, entries, least, ws, kvs, n, rfl, S, k⟩ := h
    have hu1 := hu_of hr
    have hu64 := hu64_of hr
    refine ⟨_, (pss_one (ps_ret (pe_cmpR (op_inU hu1) (pv 1) (pe_fld (pv 0) rfl) (by first | exact nomark _ | rfl)))), ?_⟩
    refine ⟨_, rfl, _, rfl, st, _, dx, _, _, rfl, S.st, W.C_Store, W.na_Store__places, rfl, ?_⟩
    exact Or.inr ⟨_, DGet.k (k := Sum.inl n) S.pl, k⟩
def sp_size : Addr → Sp := fun C vs H Q _ => ∃ st dx wl pl room entries least ws kvs n, ∃ (p : Nat) (z : Int), vs = [.ref st, .int n] ∧ StoreAt H C st dx wl pl room entries least ws kvs ∧ valV kvs (.inl n) = some (.int (p : Int)) ∧ ws[p + 1]? = some z ∧ Q (.int z) H
theorem ok_Store_size (W : WT P K mg base) : FnOk P w K mg base CX0 1 W.f_Store_size W.fd_Store_size ["self", "number"] (sp_size W.c_Store) := by
  refine W.F_Store_size.ok sc_Store_size (fun vs H Q E h => ?_) (fun cdv A outer s H vs Q E hr h => ?_)
  · obtain ⟨st, dx, wl, pl, room, entries, least, ws, kvs, n, p, z, rfl, _⟩ := h
    rfl
  · obtain ⟨st, dx, wl, pl, room, entries, least, ws, kvs, n, p, z, rfl, S, hp, hz, k⟩ := h
    have hu1 := hu_of hr
    have hu64 := hu64_of hr
    refine ⟨_, (pss_one (ps_ret (pe_ix (ix_U hu1) (pe_fld (pv 0) rfl) (pe_op op_addU (pe_ix (ix_U hu1) (pe_fld (pv 0) rfl) (pv 1) (fun _ _ => rfl)) pe_int) (fun _ _ => rfl)))), ?_⟩
    refine ⟨_, rfl, st, _, dx, _, _, rfl, S.st, W.C_Store, W.na_Store_words, rfl, ?_⟩
    refine ⟨_, rfl, st, _, dx, _, _, rfl, S.st, W.C_Store, W.na_Store__places, rfl, ?_⟩
    refine ⟨_, rfl, Or.inr ⟨_, by rw [← hp]; exact DGet.k (k := Sum.inl n) S.pl, ?_⟩⟩
    exact Or.inl ⟨_, _, _, rfl, Or.inl (SqL.of S.wl), atI_nat (j := p + 1) (int_at hz), k⟩
def sp_kind : Addr → Sp := fun C vs H Q _ => ∃ st dx wl pl room entries least ws kvs n, ∃ (p : Nat) (z : Int), vs = [.ref st, .int n] ∧ StoreAt H C st dx wl pl room entries least ws kvs ∧ valV kvs (.inl n) = some (.int (p : Int)) ∧ ws[p + 2]? = some z ∧ Q (.int z) H
theorem ok_Store_kind (W : WT P K mg base) : FnOk P w K mg base CX0 1 W.f_Store_kind W.fd_Store_kind ["self", "number"] (sp_kind W.c_Store) := by
  refine W.F_Store_kind.ok sc_Store_kind (fun vs H Q E h => ?_) (fun cdv A outer s H vs Q E hr h => ?_)
  · obtain ⟨st, dx, wl, pl, room, entries, least, ws, kvs, n, p, z, rfl, _⟩ := h
    rfl
  · obtain ⟨st, dx, wl, pl, room, entries, least, ws, kvs, n, p, z, rfl, S, hp, hz, k⟩ := h
    have hu1 := hu_of hr
    have hu64 := hu64_of hr
    refine ⟨_, (pss_one (ps_ret (pe_ix (ix_U hu1) (pe_fld (pv 0) rfl) (pe_op op_addU (pe_ix (ix_U hu1) (pe_fld (pv 0) rfl) (pv 1) (fun _ _ => rfl)) pe_int) (fun _ _ => rfl)))), ?_⟩
    refine ⟨_, rfl, st, _, dx, _, _, rfl, S.st, W.C_Store, W.na_Store_words, rfl, ?_⟩
    refine ⟨_, rfl, st, _, dx, _, _, rfl, S.st, W.C_Store, W.na_Store__places, rfl, ?_⟩
    refine ⟨_, rfl, Or.inr ⟨_, by rw [← hp]; exact DGet.k (k := Sum.inl n) S.pl, ?_⟩⟩
    exact Or.inl ⟨_, _, _, rfl, Or.inl (SqL.of S.wl), atI_nat (j := p + 2) (int_at hz), k⟩
def sp_set_kind : Addr → Sp := fun C vs H Q _ => ∃ st dx wl pl room entries least ws kvs n, ∃ (p : Nat) (x : Int), vs = [.ref st, .int n, .int x] ∧ StoreAt H C st dx wl pl room entries least ws kvs ∧ valV kvs (.inl n) = some (.int (p : Int)) ∧ p + 2 < ws.length ∧ Q .non (upd H wl (.lst ((ws.set (p + 2) x).map V.int)))
theorem set_int (ws : List Int) (i : Nat) (x : Int) : (ws.map V.int).set i (.int x) = (ws.set i x).map V.int := by rw [List.map_set]
theorem ok_Store_set_kind (W : WT P K mg base) : FnOk P w K mg base CX0 1 W.f_Store_set_kind W.fd_Store_set_kind ["self", "number", "word"] (sp_set_kind W.c_Store) := by
  refine W.F_Store_set_kind.ok sc_Store_set_kind (fun vs H Q E h => ?_) (fun cdv A outer s H vs Q E hr h => ?_)
  · obtain ⟨st, dx, wl, pl, room, entries, least, ws, kvs, n, p, z, rfl, _⟩ := h
    rfl
  · obtain ⟨st, dx, wl, pl, room, entries, least, ws, kvs, n, p, z, rfl, S, hp, hz, k⟩ := h
    have hu1 := hu_of hr
    have hu64 := hu64_of hr
    refine ⟨_, (pss_one (ps_asg (pv 2) (pg_sub (pe_fld (pv 0) rfl) (pe_op op_addU (pe_ix (ix_U hu1) (pe_fld (pv 0) rfl) (pv 1) (fun _ _ => rfl)) pe_int) set_list))), ?_⟩
    refine ⟨_, rfl, ?_⟩
    refine ⟨_, rfl, st, _, dx, _, _, rfl, S.st, W.C_Store, W.na_Store_words, rfl, ?_⟩
    refine ⟨_, rfl, st, _, dx, _, _, rfl, S.st, W.C_Store, W.na_Store__places, rfl, ?_⟩
    refine ⟨_, rfl, Or.inr ⟨_, by rw [← hp]; exact DGet.k (k := Sum.inl n) S.pl, ?_⟩⟩
    refine ⟨wl, _, _, p + 2, rfl, rfl, S.wl, ixN_nat (i := p + 2) (by rw [List.length_map]; exact hz), ?_⟩
    rw [set_int]
    exact k
def sp_put : Addr → Sp := fun C vs H Q _ => ∃ st dx wl pl room entries least ws kvs n, ∃ (p a : Nat) (x : Int), vs = [.ref st, .int n, .int (a : Int), .int x] ∧ StoreAt H C st dx wl pl room entries least ws kvs ∧ valV kvs (.inl n) = some (.int (p : Int)) ∧ p + 3 + a < ws.length ∧ Q .non (upd H wl (.lst ((ws.set (p + 3 + a) x).map V.int)))
theorem ok_Store_put (W : WT P K mg base) : FnOk P w K mg base CX0 1 W.f_Store_put W.fd_Store_put ["self", "number", "at", "word"] (sp_put W.c_Store) := by
  refine W.F_Store_put.ok sc_Store_put (fun vs H Q E h => ?_) (fun cdv A outer s H vs Q E hr h => ?_)
  · obtain ⟨st, dx, wl, pl, room, entries, least, ws, kvs, n, p, a, z, rfl, _⟩ := h
    rfl
  · obtain ⟨st, dx, wl, pl, room, entries, least, ws, kvs, n, p, a, z, rfl, S, hp, hz, k⟩ := h
    have hu1 := hu_of hr
    have hu64 := hu64_of hr
    refine ⟨_, (pss_one (ps_asg (pv 3) (pg_sub (pe_fld (pv 0) rfl) (pe_op op_addU (pe_op op_addU (pe_ix (ix_U hu1) (pe_fld (pv 0) rfl) (pv 1) (fun _ _ => rfl)) (pe_gi rfl W.g_HEADER)) (pv 2)) set_list))), ?_⟩
    refine ⟨_, rfl, ?_⟩
    refine ⟨_, rfl, st, _, dx, _, _, rfl, S.st, W.C_Store, W.na_Store_words, rfl, ?_⟩
    refine ⟨_, rfl, st, _, dx, _, _, rfl, S.st, W.C_Store, W.na_Store__places, rfl, ?_⟩
    refine ⟨_, rfl, Or.inr ⟨_, by rw [← hp]; exact DGet.k (k := Sum.inl n) S.pl, ?_⟩⟩
    refine ⟨_, rfl, ?_⟩
    refine ⟨wl, _, _, p + 3 + a, rfl, rfl, S.wl, ixN_nat (i := p + 3 + a) (by rw [List.length_map]; exact hz), ?_⟩
    rw [set_int]
    exact k
def seg (ws : List Int) (p n : Nat) : List Int := (ws.drop p).take n
theorem cut_seg {ws : List Int} {p n : Nat} (h : p + n ≤ ws.length) : cutV (ws.map V.int) (some (p : Int)) (some ((p : Int) + (n : Int))) = (seg ws p n).map V.int := by
  unfold cutV seg
  have h1 : HT.sIx (ws.map V.int).length 0 (some (p : Int)) = p := by rw [HT.sIx_nat, List.length_map]; omega
  have h2 : HT.sIx (ws.map V.int).length (ws.map V.int).length (some ((p : Int) + (n : Int))) = p + n := by
    have := HT.sIx_nat (ws.map V.int).length (ws.map V.int).length (p + n)
    rw [show ((p + n : Nat) : Int) = (p : Int) + (n : Int) by omega] at this
    rw [this, List.length_map]
    omega
  rw [h1, h2, List.map_take, List.map_drop, show p + n - p = n by omega]
def sp_slots : Addr → Sp := fun C vs H Q _ => ∃ st dx wl pl room entries least ws kvs n, ∃ (p z : Nat), vs = [.ref st, .int n] ∧ StoreAt H C st dx wl pl room entries least ws kvs ∧ valV kvs (.inl n) = some (.int (p : Int)) ∧ ws[p + 1]? = some (z : Int) ∧ p + 3 + z ≤ ws.length ∧
  ∀ q, H q = none → Q (.ref q) (upd H q (.lst ((seg ws (p + 3) z).map V.int)))
theorem ok_Store_slots (W : WT P K mg base) : FnOk P w K mg base CX0 2 W.f_Store_slots W.fd_Store_slots ["self", "number"] (sp_slots W.c_Store) := by
  refine W.F_Store_slots.ok sc_Store_slots (fun vs H Q E h => ?_) (fun cdv A outer s H vs Q E hr h => ?_)
  · obtain ⟨st, dx, wl, pl, room, entries, least, ws, kvs, n, p, z, rfl, _⟩ := h
    rfl
  · obtain ⟨st, dx, wl, pl, room, entries, least, ws, kvs, n, p, z, rfl, S, hp, hz, hl, k⟩ := h
    have hu1 := hu_of hr
    have hu64 := hu64_of hr
    refine ⟨_, (pss_cons (ps_set (i := 2) sc_Store_slots.nd rfl (by first | exact Or.inl rfl | exact Or.inr rfl) (pe_op op_addU (pe_ix (ix_U hu1) (pe_fld (pv 0) rfl) (pv 1) (fun _ _ => rfl)) (pe_gi rfl W.g_HEADER)))
      (pss_one (ps_ret (pe_slice sl_U (pe_fld (pv 0) rfl) (po_some (pv 2)) (po_some (pe_op op_addU (pv 2) (pe_meth (pv 0) W.C_Store W.m_Store_size (ok_Store_size W) (hr.mono (by decide)) W.b_Store_size .nil pass0 (pa_cons (pv 1) pa_nil)))))))), ?_⟩
    refine ⟨_, rfl, st, _, dx, _, _, rfl, S.st, W.C_Store, W.na_Store__places, rfl, ?_⟩
    refine ⟨_, rfl, Or.inr ⟨_, by rw [← hp]; exact DGet.k (k := Sum.inl n) S.pl, ?_⟩⟩
    refine ⟨_, rfl, st, _, dx, _, _, rfl, S.st, W.C_Store, W.na_Store_words, rfl, ?_⟩
    refine ⟨_, rfl, _, rfl, ?_⟩
    refine ⟨_, rfl, ?_⟩
    refine ⟨_, rfl, st, dx, _, rfl, S.st, rfl, ?_⟩
    refine ⟨_, rfl, ?_⟩
    refine ⟨st, dx, wl, pl, room, entries, least, ws, kvs, n, p, z, rfl, S, hp, hz, ?_⟩
    refine ⟨_, rfl, ?_⟩
    refine Or.inl ⟨wl, _, rfl, SqL.of S.wl, fun q hq => ?_⟩
    have e : cutV (ws.map V.int) (some ((p : Int) + 3)) (some ((p : Int) + 3 + (z : Int))) = (seg ws (p + 3) z).map V.int := cut_seg (p := p + 3) hl
    rw [e]
    exact k q hq
def sp_numbers : Addr → Sp := fun C vs H Q _ => ∃ st dx wl pl room entries least ws kvs, ∃ ns : List Int, vs = [.ref st] ∧ StoreAt H C st dx wl pl room entries least ws kvs ∧ kvs.map (·.1) = ns.map Sum.inl ∧
  ∀ (ns' : List Int) (p : Addr), ns'.Perm ns → ns'.Pairwise (· ≤ ·) → H p = none → Q (.ref p) (upd H p (.lst (ns'.map V.int)))
theorem ok_Store_numbers (W : WT P K mg base) : FnOk P w K mg base CX0 1 W.f_Store_numbers W.fd_Store_numbers ["self"] (sp_numbers W.c_Store) := by
  refine W.F_Store_numbers.ok sc_Store_numbers (fun vs H Q E h => ?_) (fun cdv A outer s H vs Q E hr h => ?_)
  · obtain ⟨st, dx, wl, pl, room, entries, least, ws, kvs, ns, rfl, _⟩ := h
    rfl
  · obtain ⟨st, dx, wl, pl, room, entries, least, ws, kvs, ns, rfl, S, hk, k⟩ := h
    have hu1 := hu_of hr
    have hu64 := hu64_of hr
    refine ⟨_, (pss_one (ps_ret (pe_callB (call_sortedU rfl) (by rfl) W.n_sorted bb_sorted (pa_cons (pe_fld (pv 0) rfl) pa_nil)))), ?_⟩
    refine ⟨_, rfl, st, _, dx, _, _, rfl, S.st, W.C_Store, W.na_Store__places, rfl, ?_⟩
    exact ⟨_, _, rfl, Or.inr ⟨kvs, Rd.of S.pl, hk⟩, k⟩
def sp_drop : Addr → Sp := fun C vs H Q _ => ∃ st dx wl pl room entries least ws kvs n, vs = [.ref st, .int n] ∧ StoreAt H C st dx wl pl room entries least ws kvs ∧ (valV kvs (.inl n)).isSome = true ∧
  ∀ H', StoreAt H' C st dx wl pl room entries (if n < least then n else least) ws (dropK kvs (.inl n)) → (∀ b, b ≠ st → b ≠ pl → H' b = H b) → Q .non H'
theorem ok_Store_drop (W : WT P K mg base) : FnOk P w K mg base CX0 1 W.f_Store_drop W.fd_Store_drop ["self", "number"] (sp_drop W.c_Store) := by
  refine W.F_Store_drop.ok sc_Store_drop (fun vs H Q E h => ?_) (fun cdv A outer s H vs Q E hr h => ?_)
  · obtain ⟨st, dx, wl, pl, room, entries, least, ws, kvs, ns, rfl, _⟩ := h
    rfl
  · obtain ⟨st, dx, wl, pl, room, entries, least, ws, kvs, n, rfl, S, hk, k⟩ := h
    have hu1 := hu_of hr
    have hu64 := hu64_of hr
    have n1 : st ≠ pl := ne_of S.st S.pl (by intro z; cases z)
    have n2 : wl ≠ pl := ne_of S.wl S.pl (by intro z; cases z)
    have n3 : st ≠ wl := ne_of S.st S.wl (by intro z; cases z)
    refine ⟨_, (pss_cons (ps_ddel (pe_fld (pv 0) rfl) (pv 1))
      (pss_one (ps_fld (pv 0) (pe_callB (call_min2 rfl) (by rfl) W.n_min bb_min (pa_cons (pe_fld (pv 0) rfl) (pa_cons (pv 1) pa_nil))) rfl))), ?_⟩
    refine ⟨_, rfl, st, _, dx, _, _, rfl, S.st, W.C_Store, W.na_Store__places, rfl, ?_⟩
    refine ⟨_, rfl, pl, _, .inl n, rfl, S.pl, rfl, hk, ?_⟩
    have h2 : upd H pl (.dK (dropK kvs (.inl n))) st = some (.ins W.c_Store dx (sF room entries wl pl least)) := by rw [upd_ne n1]; exact S.st
    refine ⟨_, rfl, st, _, dx, _, _, rfl, h2, W.C_Store, W.na_Store__least, rfl, ?_⟩
    refine ⟨_, rfl, _, _, rfl, ?_⟩
    refine ⟨_, rfl, st, _, dx, _, rfl, h2, W.C_Store, W.na_Store__least, (by show 5 < 1000; decide), ?_⟩
    refine k _ ⟨upd_same, ?_, ?_⟩ (fun b b1 b2 => ?_)
    · rw [upd_ne n3.symm, upd_ne n2]; exact S.wl
    · rw [upd_ne n1.symm]; exact upd_same
    · rw [upd_ne b1, upd_ne b2]
def sp_exchange : Addr → Sp := fun C vs H Q _ => ∃ st dx wl pl room entries least ws kvs m n, ∃ (p q : Nat), vs = [.ref st, .int m, .int n] ∧ StoreAt H C st dx wl pl room entries least ws kvs ∧ valV kvs (.inl m) = some (.int (p : Int)) ∧ valV kvs (.inl n) = some (.int (q : Int)) ∧ p < ws.length ∧ q < ws.length ∧ kvs.length + 1 < sizeLine ∧
  ∀ H', StoreAt H' C st dx wl pl room entries least ((ws.set p n).set q m) (putK (putK kvs (.inl m) (.int (q : Int))) (.inl n) (.int (p : Int))) → (∀ b, b ≠ wl → b ≠ pl → H' b = H b) → Q .non H'
theorem ok_Store_exchange (W : WT P K mg base) : FnOk P w K mg base CX0 1 W.f_Store_exchange W.fd_Store_exchange ["self", "first", "second"] (sp_exchange W.c_Store) := by
  refine W.F_Store_exchange.ok sc_Store_exchange (fun vs H Q E h => ?_) (fun cdv A outer s H vs Q E hr h => ?_)
  · obtain ⟨st, dx, wl, pl, room, entries, least, ws, kvs, m, n, p, q, rfl, _⟩ := h
    rfl
  · obtain ⟨st, dx, wl, pl, room, entries, least, ws, kvs, m, n, p, q, rfl, S, hm, hn, hp, hq, hl, k⟩ := h
    have hu1 := hu_of hr
    have hu64 := hu64_of hr
    have n1 : st ≠ pl := ne_of S.st S.pl (by intro z; cases z)
    have n2 : wl ≠ pl := ne_of S.wl S.pl (by intro z; cases z)
    have n3 : st ≠ wl := ne_of S.st S.wl (by intro z; cases z)
    refine ⟨_, (pss_cons (ps_set (i := 3) sc_Store_exchange.nd rfl (by first | exact Or.inl rfl | exact Or.inr rfl) (pe_ix (ix_U hu1) (pe_fld (pv 0) rfl) (pv 1) (fun _ _ => rfl)))
      (pss_cons (ps_set (i := 4) sc_Store_exchange.nd rfl (by first | exact Or.inl rfl | exact Or.inr rfl) (pe_ix (ix_U hu1) (pe_fld (pv 0) rfl) (pv 2) (fun _ _ => rfl)))
      (pss_cons (ps_dput hu1 (pe_fld (pv 0) rfl) (pv 1) (pv 4) rfl)
      (pss_cons (ps_dput hu1 (pe_fld (pv 0) rfl) (pv 2) (pv 3) rfl)
      (pss_cons (ps_asg (pv 2) (pg_sub (pe_fld (pv 0) rfl) (pv 3) set_list))
      (pss_one (ps_asg (pv 1) (pg_sub (pe_fld (pv 0) rfl) (pv 4) set_list)))))))), ?_⟩
    refine ⟨_, rfl, st, _, dx, _, _, rfl, S.st, W.C_Store, W.na_Store__places, rfl, ?_⟩
    refine ⟨_, rfl, Or.inr ⟨_, by rw [← hm]; exact DGet.k (k := Sum.inl m) S.pl, ?_⟩⟩
    refine ⟨_, rfl, st, _, dx, _, _, rfl, S.st, W.C_Store, W.na_Store__places, rfl, ?_⟩
    refine ⟨_, rfl, Or.inr ⟨_, by rw [← hn]; exact DGet.k (k := Sum.inl n) S.pl, ?_⟩⟩
    refine ⟨_, rfl, _, rfl, st, _, dx, _, _, rfl, S.st, W.C_Store, W.na_Store__places, rfl, ?_⟩
    refine ⟨_, rfl, pl, _, rfl, DPut.k (k := Sum.inl m) S.pl (by omega), ?_⟩
    generalize e1 : upd H pl (.dK (putK kvs (Sum.inl m) (.int (q : Int)))) = H1
    have s1 : H1 st = some (.ins W.c_Store dx (sF room entries wl pl least)) := by rw [← e1, upd_ne n1]; exact S.st
    have p1 : H1 pl = some (.dK (putK kvs (Sum.inl m) (.int (q : Int)))) := by rw [← e1]; exact upd_same
    refine ⟨_, rfl, _, rfl, st, _, dx, _, _, rfl, s1, W.C_Store, W.na_Store__places, rfl, ?_⟩
    refine ⟨_, rfl, pl, _, rfl, DPut.k (k := Sum.inl n) p1 (by have := length_putK kvs (Sum.inl m) (.int (q : Int)); omega), ?_⟩
    generalize e2 : upd H1 pl (.dK (putK (putK kvs (Sum.inl m) (.int (q : Int))) (Sum.inl n) (.int (p : Int)))) = H2
    have s2 : H2 st = some (.ins W.c_Store dx (sF room entries wl pl least)) := by rw [← e2, upd_ne n1]; exact s1
    have w2 : H2 wl = some (.lst (ws.map V.int)) := by rw [← e2, upd_ne n2, ← e1, upd_ne n2]; exact S.wl
    have p2 : H2 pl = some (.dK (putK (putK kvs (Sum.inl m) (.int (q : Int))) (Sum.inl n) (.int (p : Int)))) := by rw [← e2]; exact upd_same
    refine ⟨_, rfl, _, rfl, st, _, dx, _, _, rfl, s2, W.C_Store, W.na_Store_words, rfl, ?_⟩
    refine ⟨_, rfl, wl, _, _, p, rfl, rfl, w2, ixN_nat (i := p) (by rw [List.length_map]; exact hp), ?_⟩
    rw [set_int]
    generalize e3 : upd H2 wl (.lst ((ws.set p n).map V.int)) = H3
    have s3 : H3 st = some (.ins W.c_Store dx (sF room entries wl pl least)) := by rw [← e3, upd_ne n3]; exact s2
    have w3 : H3 wl = some (.lst ((ws.set p n).map V.int)) := by rw [← e3]; exact upd_same
    refine ⟨_, rfl, _, rfl, st, _, dx, _, _, rfl, s3, W.C_Store, W.na_Store_words, rfl, ?_⟩
    refine ⟨_, rfl, wl, _, _, q, rfl, rfl, w3, ixN_nat (i := q) (by rw [List.length_map, List.length_set]; exact hq), ?_⟩
    rw [set_int]
    refine k _ ⟨?_, upd_same, ?_⟩ (fun b b1 b2 => ?_)
    · rw [upd_ne n3]; exact s3
    · rw [upd_ne n2.symm, ← e3, upd_ne n2.symm]; exact p2
    · rw [upd_ne b1, ← e3, upd_ne b1, ← e2, upd_ne b2, ← e1, upd_ne b2]
def sp_init : Addr → Sp := fun C vs H Q _ => ∃ st dx room entries, vs = [.ref st, .int room, .int entries] ∧ H st = some (.ins C dx []) ∧
  ∀ H' wl pl, StoreAt H' C st dx wl pl room entries 0 [] [] → (∀ b o, H b = some o → b ≠ st → H' b = some o) → H wl = none → H pl = none → Q .non H'
theorem ok_Store___init__ (W : WT P K mg base) : FnOk P w K mg base CX0 1 W.f_Store___init__ W.fd_Store___init__ ["self", "room", "entries"] (sp_init W.c_Store) := by
  refine W.F_Store___init__.ok sc_Store___init__ (fun vs H Q E h => ?_) (fun cdv A outer s H vs Q E hr h => ?_)
  · obtain ⟨st, dx, room, entries, rfl, _⟩ := h
    rfl
  · obtain ⟨st, dx, room, entries, rfl, S, k⟩ := h
    have hu1 := hu_of hr
    have hu64 := hu64_of hr
    refine ⟨_, (pss_cons (ps_fld (pv 0) (pv 1) rfl)
      (pss_cons (ps_fld (pv 0) (pv 2) rfl)
      (pss_cons (ps_fld (pv 0) (pe_lst pa_nil) rfl)
      (pss_cons (ps_fld (pv 0) pe_dnewK rfl)
      (pss_one (ps_fld (pv 0) pe_int rfl)))))), ?_⟩
    refine ⟨_, rfl, _, rfl, st, _, dx, _, rfl, S, W.C_Store, W.na_Store_room, (by decide), ?_⟩
    refine ⟨_, rfl, _, rfl, st, _, dx, _, rfl, upd_same, W.C_Store, W.na_Store_entries, (by show 1 < 1000; decide), ?_⟩
    rw [upd_upd]
    generalize e1 : upd H st (.ins W.c_Store dx (putF "entries" (.int entries) (putF "room" (.int room) []))) = H1
    have s1 : H1 st = some (.ins W.c_Store dx [("room", .int room), ("entries", .int entries)]) := by rw [← e1]; exact upd_same
    refine ⟨(by show 0 ≤ sizeLine; decide), fun wl hw => ?_⟩
    have nw : st ≠ wl := ne_of_none s1 hw
    have s2 : upd H1 wl (.lst []) st = some (.ins W.c_Store dx [("room", .int room), ("entries", .int entries)]) := by rw [upd_ne nw]; exact s1
    refine ⟨_, rfl, st, _, dx, _, rfl, s2, W.C_Store, W.na_Store_words, (by show 2 < 1000; decide), ?_⟩
    intro pl hp
    have np : st ≠ pl := ne_of_none upd_same hp
    have npw : wl ≠ pl := fun z => by subst z; rw [upd_ne nw.symm, upd_same] at hp; cases hp
    refine ⟨_, rfl, st, _, dx, _, rfl, (by rw [upd_ne np]; exact upd_same), W.C_Store, W.na_Store__places, (by show 3 < 1000; decide), ?_⟩
    refine ⟨_, rfl, st, _, dx, _, rfl, upd_same, W.C_Store, W.na_Store__least, (by show 4 < 1000; decide), ?_⟩
    rw [upd_upd]
    have hw0 : H wl = none := by rw [← e1, upd_ne nw.symm] at hw; exact hw
    have hp0 : H pl = none := by rw [upd_ne np.symm, upd_ne npw.symm, ← e1, upd_ne np.symm] at hp; exact hp
    refine k _ wl pl ⟨upd_same, ?_, ?_⟩ (fun b o e nb => ?_) hw0 hp0
    · rw [upd_ne nw.symm, upd_ne npw, upd_ne nw.symm]; exact upd_same
    · rw [upd_ne np.symm]; exact upd_same
    · rw [upd_ne nb, upd_ne (ne_of_none e hp0), upd_ne nb, upd_ne (ne_of_none e hw0), ← e1, upd_ne nb]; exact e
end

end LX
namespace LX
open PySem PySem.Spec PyProof.Rows L2 NdefX
section
variable {P : Program} {w : World} {K : PySem.W.Frag} {mg : Str → Option Value} {base : Heap}
def sp_is_ref : Sp := fun vs H Q _ => ∃ n : Int, vs = [.int n] ∧ Q (.bl (decide (n % 2 = 0))) H
theorem ok_is_ref (W : WT P K mg base) : FnOk P w K mg base CX0 1 W.f_is_ref W.fd_is_ref ["word"] sp_is_ref := by
  refine W.F_is_ref.ok sc_is_ref (fun vs H Q E h => ?_) (fun cdv A outer s H vs Q E hr h => ?_)
  · obtain ⟨n, rfl, _⟩ := h
    rfl
  · obtain ⟨n, rfl, k⟩ := h
    have hu1 := hu_of hr
    have hu64 := hu64_of hr
    refine ⟨_, (pss_one (ps_ret (pe_cmpR (op_eqU hu64) (pe_op op_mod (pv 0) pe_int) pe_int (by first | exact nomark _ | rfl)))), ?_⟩
    refine ⟨_, rfl, _, _, rfl, rfl, (by show (0 : Int) < 2; decide), rfl, ?_⟩
    show Q (.bl (decide (V.int (n % 2) = V.int 0))) H
    rw [I_dec]
    exact k
def sp_ref_of : Sp := fun vs H Q _ => ∃ n : Int, vs = [.int n] ∧ n % 2 = 0 ∧ Q (.int (n / 2)) H
theorem ok_ref_of (W : WT P K mg base) : FnOk P w K mg base CX0 2 W.f_ref_of W.fd_ref_of ["word"] sp_ref_of := by
  refine W.F_ref_of.ok sc_ref_of (fun vs H Q E h => ?_) (fun cdv A outer s H vs Q E hr h => ?_)
  · obtain ⟨n, rfl, _⟩ := h
    rfl
  · obtain ⟨n, rfl, hn, k⟩ := h
    have hu1 := hu_of hr
    have hu64 := hu64_of hr
    refine ⟨_, (pss_cons (ps_if (pt_not (pt_truth (pe_call (ok_is_ref W) (hr.mono (by decide)) rfl W.g_is_ref W.F_is_ref.kp W.b_is_ref .nil pass0 (pa_cons (pv 0) pa_nil)) (by intro _; rfl))) (pss_one ps_never) pss_nil)
      (pss_one (ps_ret (pe_op op_fdivW (pv 0) pe_int)))), ?_⟩
    refine ⟨_, rfl, n, rfl, _, rfl, ?_⟩
    refine iteND (fun h => absurd hn h) (fun _ => ?_)
    exact ⟨_, rfl, _, _, rfl, rfl, ⟨by decide, by decide⟩, k⟩
def sp_number : Sp := fun vs H Q _ => ∃ c k : Int, vs = [.int c, .int k] ∧ 0 ≤ k ∧ k ≤ 100000 ∧ ∀ r : Int, 0 ≤ r → Q (.int r) H
theorem ok__law_number (W : WT P K mg base) : FnOk P w K mg base CX0 1 W.f__law_number W.fd__law_number ["_law_cell", "_law_k"] sp_number := by
  refine W.F__law_number.ok sc__law_number (fun vs H Q E h => ?_) (fun cdv A outer s H vs Q E hr h => ?_)
  · obtain ⟨n, m, rfl, _⟩ := h
    rfl
  · obtain ⟨c, m, rfl, hm, hm2, k⟩ := h
    have hu1 := hu_of hr
    have hu64 := hu64_of hr
    refine ⟨_, (pss_cons (ps_if (pt_cmpR op_geU (pv 0) (pe_op op_pow pe_int pe_int) (by first | exact nomark _ | rfl)) (pss_one (ps_ret (pv 0))) pss_nil)
      (pss_cons (ps_set (i := 2) sc__law_number.nd rfl (by first | exact Or.inl rfl | exact Or.inr rfl) (pe_op op_mod (pe_callTy call_intU (by rfl) W.n_int bb_int (pa_cons (pe_op op_addU (pe_op op_addU (pe_op op_mulU (pv 0) pe_int) (pe_op op_mulU (pv 1) pe_int)) pe_int) pa_nil)) pe_int))
      (pss_one (ps_ret (pe_op op_mod (pe_callTy call_intU (by rfl) W.n_int bb_int (pa_cons (pe_op op_addU (pe_op op_mulU (pv 2) (pv 2)) (pe_op op_mulU (pv 1) pe_int)) pa_nil)) pe_int))))), ?_⟩
    refine ⟨_, rfl, _, _, rfl, rfl, ⟨by decide, by decide, by decide⟩, _, rfl, ?_⟩
    refine iteD (fun h => ?_) (fun h => ?_)
    · refine ⟨_, rfl, k _ ?_⟩
      have h : (10 : Int) ^ 18 ≤ c := h
      omega
    · refine ⟨_, rfl, Or.inr ⟨by decide, by decide⟩, ?_⟩
      refine ⟨_, rfl, Or.inr ⟨by decide, by decide⟩, ?_⟩
      refine ⟨_, _, rfl, rfl, (by show (0 : Int) < 2147483647; decide), ?_⟩
      have e1 := Int.emod_nonneg (c * 48271 + m * 69621 + 11) (by decide : (2147483647 : Int) ≠ 0)
      have e2 := Int.emod_lt_of_pos (c * 48271 + m * 69621 + 11) (by decide : (0 : Int) < 2147483647)
      generalize (c * 48271 + m * 69621 + 11) % 2147483647 = d at e1 e2 ⊢
      refine ⟨_, rfl, _, rfl, Or.inl ⟨by omega, by omega⟩, ?_⟩
      refine ⟨_, rfl, Or.inr ⟨by decide, by decide⟩, ?_⟩
      refine ⟨_, _, rfl, rfl, (by show (0 : Int) < 2147483399; decide), ?_⟩
      exact k _ (Int.emod_nonneg _ (by decide))
def sp_word : Sp := fun vs H Q _ => ∃ x m : Int, vs = [.int x, .int m] ∧ 0 ≤ m ∧ m ≤ 100000 ∧ ∀ r : Int, Q (.int r) H
theorem divc (j : Int) (h0 : 0 < j) (h : j ≤ 100000000) : CDivW 0 j := ⟨h0, by
  have : j.natAbs.log2 ≤ j.natAbs := Nat.log2_le_self _
  have e : j.natAbs ≤ 100000000 := by omega
  have : j.natAbs.log2 < 27 := by
    by_cases z : j.natAbs = 0
    · omega
    · exact (Nat.log2_lt z).mpr (by omega)
  omega⟩
theorem divx {i j : Int} (h : CDivW 0 j) : CDivW i j := h
theorem ok__law_word (W : WT P K mg base) : FnOk P w K mg base CX0 1 W.f__law_word W.fd__law_word ["_law_x", "_law_many"] sp_word := by
  refine W.F__law_word.ok sc__law_word (fun vs H Q E h => ?_) (fun cdv A outer s H vs Q E hr h => ?_)
  · obtain ⟨n, m, rfl, _⟩ := h
    rfl
  · obtain ⟨x, m, rfl, hm, hm2, k⟩ := h
    have hu1 := hu_of hr
    have hu64 := hu64_of hr
    refine ⟨_, (pss_cons (ps_set (i := 2) sc__law_word.nd rfl (by first | exact Or.inl rfl | exact Or.inr rfl) (pe_op op_mulU (pe_op op_fdivW (pv 0) pe_int) pe_int))
      (pss_cons (ps_if (pt_cmpR (op_eqU hu64) (pe_op op_mod (pe_callTy call_intU (by rfl) W.n_int bb_int (pa_cons (pv 0) pa_nil)) pe_int) pe_int (by first | exact nomark _ | rfl)) (pss_one (ps_ret (pe_op op_addU (pe_op op_mulU pe_int (pe_op op_sub (pe_op op_mod (pe_callTy call_intU (by rfl) W.n_int bb_int (pa_cons (pv 2) pa_nil)) pe_int) pe_int)) pe_int))) pss_nil)
      (pss_cons (ps_if (pt_cmpR (op_eqU hu64) (pe_op op_mod (pe_callTy call_intU (by rfl) W.n_int bb_int (pa_cons (pv 0) pa_nil)) pe_int) pe_int (by first | exact nomark _ | rfl)) (pss_one (ps_ret (pe_op op_addU (pe_op op_mulU pe_int (pe_op op_mod (pe_callTy call_intU (by rfl) W.n_int bb_int (pa_cons (pv 2) pa_nil)) pe_int)) pe_int))) pss_nil)
      (pss_cons (ps_if (pt_cmpR (op_eqU hu64) (pe_op op_mod (pe_callTy call_intU (by rfl) W.n_int bb_int (pa_cons (pv 0) pa_nil)) pe_int) pe_int (by first | exact nomark _ | rfl)) (pss_one (ps_ret (pe_op op_mulU pe_int (pe_op op_mod (pe_callTy call_intU (by rfl) W.n_int bb_int (pa_cons (pv 2) pa_nil)) pe_int)))) pss_nil)
      (pss_one (ps_ret (pe_op op_mulU pe_int (pe_op op_mod (pe_op op_fdivW (pv 0) pe_int) (pe_op op_addU (pv 1) pe_int))))))))), ?_⟩
    refine ⟨_, rfl, _, _, rfl, rfl, ⟨by decide, by decide⟩, Or.inr ⟨by decide, by decide⟩, ?_⟩
    refine ⟨_, rfl, _, _, rfl, rfl, (by show (0 : Int) < 6; decide), rfl, _, rfl, ?_⟩
    refine iteD (fun h => ?_) (fun h => ?_)
    · refine ⟨_, rfl, _, _, rfl, rfl, (by show (0 : Int) < 536870912; decide), _, _, rfl, rfl, ?_⟩
      exact ⟨Or.inl ⟨by decide, by decide⟩, k _⟩
    · refine ⟨_, rfl, _, _, rfl, rfl, (by show (0 : Int) < 6; decide), rfl, _, rfl, ?_⟩
      refine iteD (fun h => ?_) (fun h => ?_)
      · refine ⟨_, rfl, _, _, rfl, rfl, (by show (0 : Int) < 100000; decide), ?_⟩
        exact ⟨Or.inl ⟨by decide, by decide⟩, k _⟩
      · refine ⟨_, rfl, _, _, rfl, rfl, (by show (0 : Int) < 6; decide), rfl, _, rfl, ?_⟩
        refine iteD (fun h => ?_) (fun h => ?_)
        · refine ⟨_, rfl, _, _, rfl, rfl, (by show (0 : Int) < 100000; decide), ?_⟩
          exact ⟨Or.inl ⟨by decide, by decide⟩, k _⟩
        · refine ⟨_, rfl, _, _, rfl, rfl, ⟨by decide, by decide⟩, ?_⟩
          refine ⟨_, rfl, _, _, rfl, rfl, (by omega), ?_⟩
          exact ⟨Or.inl ⟨by decide, by decide⟩, k _⟩
def sp_is : Sp := fun vs H Q _ => ∃ a b : Int, vs = [.int a, .int b] ∧ Q (.bl (decide (a = b))) H
theorem ok__law_is (W : WT P K mg base) : FnOk P w K mg base CX0 1 W.f__law_is W.fd__law_is ["_law_actual", "_law_due_here"] sp_is := by
  refine W.F__law_is.ok sc__law_is (fun vs H Q E h => ?_) (fun cdv A outer s H vs Q E hr h => ?_)
  · obtain ⟨n, m, rfl, _⟩ := h
    rfl
  · obtain ⟨a, b, rfl, k⟩ := h
    have hu1 := hu_of hr
    have hu64 := hu64_of hr
    refine ⟨_, (pss_one (ps_ret (pe_and (pe_callB call_isi (by rfl) W.n_isinstance bb_isinstance (pa_cons (pv 0) (pa_cons (pe_bt rfl W.n_int bb_int) pa_nil))) (pe_and (pe_notT (pe_callB call_isi (by rfl) W.n_isinstance bb_isinstance (pa_cons (pv 0) (pa_cons (pe_bt rfl W.n_bool bb_bool) pa_nil)))) (pe_one (pe_cmpR (op_eqU hu64) (pv 0) (pv 1) (by first | exact nomark _ | rfl))))))), ?_⟩
    refine ⟨_, rfl, ?_⟩
    refine ⟨_, _, _, _, _, rfl, ClsV.ty _, TyX.base (TyOf.int _), kt_int_int, ?_⟩
    refine ⟨_, rfl, ?_⟩
    refine iteT ?_
    refine ⟨_, rfl, ?_⟩
    refine ⟨_, _, _, _, _, rfl, ClsV.ty _, TyX.base (TyOf.int _), kt_int_bool, ?_⟩
    refine ⟨_, rfl, _, rfl, iteT ?_⟩
    refine ⟨_, rfl, _, rfl, rfl, ?_⟩
    show Q (.bl (decide (V.int a = V.int b))) H
    rw [I_dec]
    exact k
/-- every old thing outside of F is kept -/
def Fr (F : List Addr) (H H' : Hp) : Prop := ∀ b o, H b = some o → b ∉ F → H' b = some o
theorem Fr.rfl' {F : List Addr} {H : Hp} : Fr F H H := fun _ _ e _ => e
theorem Fr.trans {F : List Addr} {H H1 H2 : Hp} (a : Fr F H H1) (b : Fr F H1 H2) : Fr F H H2 := fun c o e n => b c o (a c o e n) n
theorem Fr.new {F : List Addr} {H : Hp} {q : Addr} {o : HO} (hq : H q = none) : Fr F H (upd H q o) := fun c u e _ => by rw [upd_ne (ne_of_none e hq)]; exact e
theorem Fr.at {F : List Addr} {H : Hp} {q : Addr} {o : HO} (hq : q ∈ F) : Fr F H (upd H q o) := fun c u e n => by rw [upd_ne (fun z => n (by rw [z]; exact hq))]; exact e
theorem Fr.mono {F G : List Addr} {H H' : Hp} (a : Fr F H H') (h : ∀ b, b ∈ F → b ∈ G) : Fr G H H' := fun c o e n => a c o e fun m => n (h c m)
def IsI (H : Hp) (a : Addr) (ns : List Int) : Prop := H a = some (.lst (ns.map V.int))
def sp_same : Sp := fun vs H Q _ => ∃ a b ns, vs = [.ref a, .ref b] ∧ IsI H a ns ∧ IsI H b ns ∧ ns.length ≤ 100000 ∧ Q (.bl true) H
theorem ok__law_same (W : WT P K mg base) : FnOk P w K mg base CX0 2 W.f__law_same W.fd__law_same ["_law_actual", "_law_due_here"] sp_same := by
  refine W.F__law_same.ok sc__law_same (fun vs H Q E h => ?_) (fun cdv A outer s H vs Q E hr h => ?_)
  · obtain ⟨n, m, ns, rfl, _⟩ := h
    rfl
  · obtain ⟨a, b, ns, rfl, ha, hb, hl, k⟩ := h
    have hu1 := hu_of hr
    have hu64 := hu64_of hr
    refine ⟨_, (pss_cons (ps_if (PW.pt (pw_or (pt_not (pt_truth (pe_callB call_isi (by rfl) W.n_isinstance bb_isinstance (pa_cons (pv 0) (pa_cons (pe_bt rfl W.n_list bb_list) pa_nil))) (by intro _; rfl))) (pw_or1 (pt_cmpR (op_neU hu64) (pe_callB call_lenU (by rfl) W.n_len bb_len (pa_cons (pv 0) pa_nil)) (pe_callB call_lenU (by rfl) W.n_len bb_len (pa_cons (pv 1) pa_nil)) (by first | exact nomark _ | rfl))))) (pss_one (ps_ret pe_bl)) pss_nil)
      (pss_cons (ps_for PassesOwn.never rfl (pi_range1 (by rfl) W.n_range (pa_cons (pe_callB call_lenU (by rfl) W.n_len bb_len (pa_cons (pv 1) pa_nil)) pa_nil)) (pg_name (i := 2) sc__law_same.nd rfl (by first | exact Or.inl rfl | exact Or.inr rfl)) (pss_one (ps_if (pt_not (pt_truth (pe_call (ok__law_is W) (hr.mono (by decide)) rfl W.g__law_is W.F__law_is.kp W.b__law_is .nil pass0 (pa_cons (pe_ix (ix_U hu1) (pv 0) (pv 2) (fun _ _ => rfl)) (pa_cons (pe_ix (ix_U hu1) (pv 1) (pv 2) (fun _ _ => rfl)) pa_nil))) (by intro _; rfl))) (pss_one (ps_ret pe_bl)) pss_nil)))
      (pss_one (ps_ret pe_bl)))), ?_⟩
    refine ⟨_, rfl, ?_⟩
    refine ⟨_, _, _, _, _, rfl, ClsV.ty _, TyX.base (TyOf.lst ha), kt_list_list, ?_⟩
    refine ⟨_, rfl, iteF ?_⟩
    refine ⟨_, rfl, Or.inl ⟨_, Or.inl (SqL.of ha), ?_⟩⟩
    refine ⟨_, rfl, Or.inl ⟨_, Or.inl (SqL.of hb), ?_⟩⟩
    refine ⟨rfl, _, rfl, ?_⟩
    refine iteND (fun h => absurd rfl h) (fun _ => ?_)
    refine ⟨_, rfl, Or.inl ⟨_, Or.inl (SqL.of hb), ?_⟩⟩
    rw [List.length_map]
    refine ⟨_, rfl, by omega, by omega, for_range (lo := 0) (n := ns.length) (fun _ σ H' => (∃ v, σ = [some (.ref a), some (.ref b), v]) ∧ H' = H) ⟨⟨_, rfl⟩, rfl⟩ (fun i σ H' hi hI => ?_) (fun σ H' hI => ?_)⟩
    · obtain ⟨⟨v, rfl⟩, rfl⟩ := hI
      have hx := int_at (List.getElem?_eq_getElem hi)
      refine ⟨_, rfl, _, rfl, Or.inl ⟨_, _, _, rfl, Or.inl (SqL.of ha), by rw [Int.zero_add]; exact atI_nat hx, ?_⟩⟩
      refine ⟨_, rfl, _, rfl, Or.inl ⟨_, _, _, rfl, Or.inl (SqL.of hb), by rw [Int.zero_add]; exact atI_nat hx, ?_⟩⟩
      refine ⟨_, _, rfl, ?_⟩
      refine ⟨_, rfl, ?_⟩
      refine iteND (fun h => absurd rfl h) (fun _ => ?_)
      exact ⟨⟨_, rfl⟩, rfl⟩
    · obtain ⟨_, rfl⟩ := hI
      exact k
end

end LX
namespace LX
open PySem PySem.Spec PyProof.Rows L2 NdefX
section
variable {P : Program} {w : World} {K : PySem.W.Frag} {mg : Str → Option Value} {base : Heap}
theorem pig {α : Type} [DecidableEq α] (f : Nat → α) (hf : ∀ i j, f i = f j → i = j) : ∀ (m : Nat) (l : List α), (∀ n, n < m → f n ∈ l) → m ≤ l.length
  | 0, _, _ => Nat.zero_le _
  | m + 1, l, h => by
    have hm := h m (Nat.lt_succ_self m)
    have := pig f hf m (l.erase (f m)) fun n hn => (List.mem_erase_of_ne (fun e => by have := hf _ _ e; omega)).mpr (h n (by omega))
    have hl := List.length_erase_of_mem hm
    have : 0 < l.length := List.length_pos_of_mem hm
    omega
theorem val_mem {κ : Type} [DecidableEq κ] {kvs : List (κ × V)} {k : κ} {v : V} (h : valV kvs k = some v) : (k, v) ∈ kvs := by
  unfold valV at h
  obtain ⟨p, hp, e⟩ := Option.map_eq_some_iff.mp h
  have h1 := List.find?_some hp
  have h2 := List.mem_of_find?_eq_some hp
  have h1 : p.1 = k := of_decide_eq_true h1
  obtain ⟨a, b⟩ := p
  subst h1 e
  exact h2
def Seen (kvs : List (Key × V)) (m : Int) : Prop := 0 ≤ m ∧ ∀ n : Int, 0 ≤ n → n < m → (valV kvs (.inl n)).isSome = true
theorem Seen.le {kvs : List (Key × V)} {m : Int} (h : Seen kvs m) : m ≤ kvs.length := by
  have := pig (α := Key) (fun n => .inl (n : Int)) (fun i j e => by have := Sum.inl.inj e; omega) m.toNat (kvs.map (·.1)) fun n hn => by
    have z := h.2 n (by omega) (by have := h.1; omega)
    obtain ⟨v, hv⟩ := Option.isSome_iff_exists.mp z
    exact List.mem_map.mpr ⟨_, val_mem hv, rfl⟩
  rw [List.length_map] at this
  have := h.1
  omega
def sp_free : Addr → Sp := fun C vs H Q _ => ∃ st dx wl pl room entries least ws kvs, vs = [.ref st] ∧ StoreAt H C st dx wl pl room entries least ws kvs ∧ Seen kvs least ∧ (kvs.length : Int) < entries ∧
  ∀ m H', StoreAt H' C st dx wl pl room entries m ws kvs → (∀ b, b ≠ st → H' b = H b) → Seen kvs m → valV kvs (.inl m) = none → Q (.int m) H'
theorem ok_Store_free_number (W : WT P K mg base) : FnOk P w K mg base CX0 1 W.f_Store_free_number W.fd_Store_free_number ["self"] (sp_free W.c_Store) := by
  refine W.F_Store_free_number.ok sc_Store_free_number (fun vs H Q E h => ?_) (fun cdv A outer s H vs Q E hr h => ?_)
  · obtain ⟨st, dx, wl, pl, room, entries, least, ws, kvs, rfl, _⟩ := h
    rfl
  · obtain ⟨st, dx, wl, pl, room, entries, least, ws, kvs, rfl, S, hs, hl, k⟩ := h
    have hu1 := hu_of hr
    have hu64 := hu64_of hr
    refine ⟨_, (pss_cons (ps_while PassesOwn.never (pt_cmpR (op_inU hu1) (pe_fld (pv 0) rfl) (pe_fld (pv 0) rfl) (by first | exact nomark _ | rfl)) (pss_one (ps_fld (pv 0) (pe_op op_addU (pe_fld (pv 0) rfl) pe_int) rfl)))
      (pss_cons (ps_if (pt_cmpR op_geU (pe_fld (pv 0) rfl) (pe_fld (pv 0) rfl) (by first | exact nomark _ | rfl)) (pss_one ps_never) pss_nil)
      (pss_one (ps_ret (pe_fld (pv 0) rfl))))), ?_⟩
    refine ⟨fun n σ H' => ∃ m : Int, σ = [some (.ref st)] ∧ StoreAt H' W.c_Store st dx wl pl room entries m ws kvs ∧ (∀ b, b ≠ st → H' b = H b) ∧ Seen kvs m ∧ n = kvs.length - m.toNat, ⟨_, least, rfl, S, fun _ _ => rfl, hs, rfl⟩, ?_⟩
    rintro n σ H' ⟨m, rfl, S1, fr, hs1, rfl⟩
    refine ⟨_, rfl, st, _, dx, _, _, rfl, S1.st, W.C_Store, W.na_Store__least, rfl, ?_⟩
    refine ⟨_, rfl, st, _, dx, _, _, rfl, S1.st, W.C_Store, W.na_Store__places, rfl, ?_⟩
    refine Or.inr ⟨_, DGet.k (k := Sum.inl m) S1.pl, ?_⟩
    refine ⟨_, rfl, ?_⟩
    cases e : valV kvs (.inl m) with
    | some v =>
      refine iteT ?_
      refine ⟨_, fun _ _ z => z, ?_⟩
      refine ⟨_, rfl, st, _, dx, _, _, rfl, S1.st, W.C_Store, W.na_Store__least, rfl, ?_⟩
      refine ⟨_, rfl, st, _, dx, _, rfl, S1.st, W.C_Store, W.na_Store__least, (by show 5 < 1000; decide), ?_⟩
      have n1 : st ≠ pl := ne_of S1.st S1.pl (by intro z; cases z)
      have n3 : st ≠ wl := ne_of S1.st S1.wl (by intro z; cases z)
      have hs2 : Seen kvs (m + 1) := ⟨by have := hs1.1; omega, fun n h0 h1 => by
        by_cases q : n = m
        · subst q; rw [e]; rfl
        · exact hs1.2 n h0 (by omega)⟩
      have l2 := hs2.le
      have l1 := hs1.1
      refine ⟨kvs.length - (m + 1).toNat, by omega, m + 1, rfl, ⟨upd_same, ?_, ?_⟩, fun b hb => ?_, hs2, rfl⟩
      · rw [upd_ne n3.symm]; exact S1.wl
      · rw [upd_ne n1.symm]; exact S1.pl
      · rw [upd_ne hb]; exact fr b hb
    | none =>
      refine iteF ?_
      refine ⟨_, rfl, st, _, dx, _, _, rfl, S1.st, W.C_Store, W.na_Store__least, rfl, ?_⟩
      refine ⟨_, rfl, st, _, dx, _, _, rfl, S1.st, W.C_Store, W.na_Store_entries, rfl, ?_⟩
      refine ⟨_, rfl, ?_⟩
      refine iteD (fun h => ?_) (fun h => ?_)
      · have h : entries ≤ m := h
        have := hs1.le
        omega
      · refine ⟨_, rfl, st, _, dx, _, _, rfl, S1.st, W.C_Store, W.na_Store__least, rfl, ?_⟩
        exact k m H' S1 fr hs1 e
def sp_alloc : Addr → Sp := fun C vs H Q _ => ∃ st dx wl pl room entries least ws kvs, ∃ (x : Int) (z : Nat), vs = [.ref st, .int x, .int (z : Int)] ∧ StoreAt H C st dx wl pl room entries least ws kvs ∧ Seen kvs least ∧ (kvs.length : Int) < entries ∧ entries ≤ 100000 ∧ (ws.length : Int) + 3 + z ≤ room ∧ room ≤ 100000 ∧
  ∀ m H', StoreAt H' C st dx wl pl room entries m (ws ++ (m :: (z : Int) :: x :: List.replicate z 0)) (putK kvs (.inl m) (.int (ws.length : Int))) → Fr [st, wl, pl] H H' → Seen kvs m → valV kvs (.inl m) = none → Q (.int m) H'
theorem rep_int (z : Nat) (x : Int) : (List.replicate z [V.int x]).flatten = (List.replicate z x).map V.int := by
  induction z with
  | zero => rfl
  | succ n ih => rw [List.replicate_succ, List.flatten_cons, ih, List.replicate_succ, List.map_cons] <;> rfl
theorem ok_Store_allocate (W : WT P K mg base) : FnOk P w K mg base CX0 2 W.f_Store_allocate W.fd_Store_allocate ["self", "kind", "size"] (sp_alloc W.c_Store) := by
  refine W.F_Store_allocate.ok sc_Store_allocate (fun vs H Q E h => ?_) (fun cdv A outer s H vs Q E hr h => ?_)
  · obtain ⟨st, dx, wl, pl, room, entries, least, ws, kvs, x, z, rfl, _⟩ := h
    rfl
  · obtain ⟨st, dx, wl, pl, room, entries, least, ws, kvs, x, z, rfl, S, hs, hl, he, hz, hr2, k⟩ := h
    have hu1 := hu_of hr
    have hu64 := hu64_of hr
    refine ⟨_, (pss_cons (ps_if (pt_cmpR op_gtU (pe_op op_addU (pe_op op_addU (pe_callB call_lenU (by rfl) W.n_len bb_len (pa_cons (pe_fld (pv 0) rfl) pa_nil)) (pe_gi rfl W.g_HEADER)) (pv 2)) (pe_fld (pv 0) rfl) (by first | exact nomark _ | rfl)) (pss_one ps_never) pss_nil)
      (pss_cons (ps_set (i := 3) sc_Store_allocate.nd rfl (by first | exact Or.inl rfl | exact Or.inr rfl) (pe_meth0 (pv 0) W.C_Store W.m_Store_free_number (ok_Store_free_number W) (hr.mono (by decide)) W.b_Store_free_number .nil pass0 ))
      (pss_cons (ps_dput hu1 (pe_fld (pv 0) rfl) (pv 3) (pe_callB call_lenU (by rfl) W.n_len bb_len (pa_cons (pe_fld (pv 0) rfl) pa_nil)) rfl)
      (pss_cons (ps_expr (pe_bm PySem.F.plainAttrs_list PySem.F.slot_list_extend PySem.F.type_list_extend mt_extend (pe_fld (pv 0) rfl) (pa_cons (pe_lst (pa_cons (pv 3) (pa_cons (pv 2) (pa_cons (pv 1) pa_nil)))) pa_nil)))
      (pss_cons (ps_expr (pe_bm PySem.F.plainAttrs_list PySem.F.slot_list_extend PySem.F.type_list_extend mt_extend (pe_fld (pv 0) rfl) (pa_cons (pe_op op_mulU (pe_lst (pa_cons (pe_gi rfl W.g_NIL) pa_nil)) (pv 2)) pa_nil)))
      (pss_one (ps_ret (pv 3)))))))), ?_⟩
    refine ⟨_, rfl, st, _, dx, _, _, rfl, S.st, W.C_Store, W.na_Store_words, rfl, ?_⟩
    refine Or.inl ⟨_, Or.inl (SqL.of S.wl), ?_⟩
    rw [List.length_map]
    refine ⟨_, rfl, ?_⟩
    refine ⟨_, rfl, st, _, dx, _, _, rfl, S.st, W.C_Store, W.na_Store_room, rfl, ?_⟩
    refine ⟨_, rfl, ?_⟩
    refine iteD (fun h => ?_) (fun h => ?_)
    · have h : room < (ws.length : Int) + 3 + z := h
      omega
    · refine ⟨_, rfl, st, dx, _, rfl, S.st, rfl, ?_⟩
      refine ⟨st, dx, wl, pl, room, entries, least, ws, kvs, rfl, S, hs, hl, fun m H1 S1 fr hs1 hm => ?_⟩
      have n1 : st ≠ pl := ne_of S1.st S1.pl (by intro z; cases z)
      have n2 : wl ≠ pl := ne_of S1.wl S1.pl (by intro z; cases z)
      have n3 : st ≠ wl := ne_of S1.st S1.wl (by intro z; cases z)
      refine ⟨_, rfl, st, _, dx, _, _, rfl, S1.st, W.C_Store, W.na_Store_words, rfl, ?_⟩
      refine Or.inl ⟨_, Or.inl (SqL.of S1.wl), ?_⟩
      rw [List.length_map]
      refine ⟨_, rfl, st, _, dx, _, _, rfl, S1.st, W.C_Store, W.na_Store__places, rfl, ?_⟩
      refine ⟨_, rfl, pl, _, rfl, DPut.k (k := Sum.inl m) S1.pl (by rw [sizeLine_eq]; omega), ?_⟩
      generalize e2 : upd H1 pl (.dK (putK kvs (Sum.inl m) (.int (ws.length : Int)))) = H2
      have s2 : H2 st = some (.ins W.c_Store dx (sF room entries wl pl m)) := by rw [← e2, upd_ne n1]; exact S1.st
      have w2 : H2 wl = some (.lst (ws.map V.int)) := by rw [← e2, upd_ne n2]; exact S1.wl
      have p2 : H2 pl = some (.dK (putK kvs (Sum.inl m) (.int (ws.length : Int)))) := by rw [← e2]; exact upd_same
      have f2 : Fr [st, wl, pl] H H2 := by
        refine Fr.trans (H1 := H1) (fun b o e n => ?_) (by rw [← e2]; exact Fr.at (by simp))
        rw [fr b (fun z => n (by simp [z]))]; exact e
      refine ⟨_, rfl, st, _, dx, _, _, rfl, s2, W.C_Store, W.na_Store_words, rfl, Or.inl ⟨rfl, _, SqL.of w2⟩, ?_⟩
      refine ⟨_, rfl, _, rfl, _, rfl, (by show 3 ≤ sizeLine; decide), fun q hq => ?_⟩
      have nq : wl ≠ q := ne_of_none w2 hq
      refine ⟨wl, q, _, _, rfl, rfl, (by rw [upd_ne nq]; exact w2), upd_same, (by rw [List.length_map, sizeLine_eq]; show ws.length + 3 ≤ _; omega), ?_⟩
      have ew : ws.map V.int ++ [V.int m, .int (z : Int), .int x] = (ws ++ [m, (z : Int), x]).map V.int := by rw [List.map_append]; rfl
      rw [ew]
      generalize e3 : upd (upd H2 q (.lst [V.int m, .int (z : Int), .int x])) wl (.lst ((ws ++ [m, (z : Int), x]).map V.int)) = H3
      have s3 : H3 st = some (.ins W.c_Store dx (sF room entries wl pl m)) := by rw [← e3, upd_ne n3, upd_ne (ne_of_none s2 hq)]; exact s2
      have w3 : H3 wl = some (.lst ((ws ++ [m, (z : Int), x]).map V.int)) := by rw [← e3]; exact upd_same
      have p3 : H3 pl = some (.dK (putK kvs (Sum.inl m) (.int (ws.length : Int)))) := by rw [← e3, upd_ne n2.symm, upd_ne (ne_of_none p2 hq)]; exact p2
      have f3 : Fr [st, wl, pl] H H3 := by
        rw [← e3]
        exact (f2.trans (Fr.new hq)).trans (Fr.at (by simp))
      refine ⟨_, rfl, st, _, dx, _, _, rfl, s3, W.C_Store, W.na_Store_words, rfl, Or.inl ⟨rfl, _, SqL.of w3⟩, ?_⟩
      refine ⟨(by show 1 ≤ sizeLine; decide), fun q1 hq1 => ?_⟩
      refine ⟨_, rfl, ?_⟩
      refine ⟨q1, (z : Int), _, rfl, rfl, upd_same, by omega, by omega, (by show 1 * ((z : Int)).toNat ≤ _; rw [sizeLine_eq]; omega), fun q2 hq2 => ?_⟩
      rw [Int.toNat_natCast, rep_int]
      have f4 := (f3.trans (Fr.new (o := .lst [V.int 0]) hq1)).trans (Fr.new (o := .lst ((List.replicate z (0 : Int)).map V.int)) hq2)
      generalize e5 : upd (upd H3 q1 (.lst [V.int 0])) q2 (.lst ((List.replicate z (0 : Int)).map V.int)) = H5
      have g5 : ∀ b o, H3 b = some o → H5 b = some o := fun b o e => by
        have h1 : upd H3 q1 (.lst [V.int 0]) b = some o := by rw [upd_ne (ne_of_none e hq1)]; exact e
        rw [← e5, upd_ne (ne_of_none h1 hq2)]; exact h1
      rw [e5] at f4
      refine ⟨wl, q2, _, _, rfl, rfl, g5 _ _ w3, (by rw [← e5]; exact upd_same), (by simp only [List.length_map, List.length_append, List.length_replicate]; rw [sizeLine_eq]; show ws.length + 3 + z ≤ _; omega), ?_⟩
      have ew2 : (ws ++ [m, (z : Int), x]).map V.int ++ (List.replicate z (0 : Int)).map V.int = (ws ++ (m :: (z : Int) :: x :: List.replicate z 0)).map V.int := by rw [← List.map_append, List.append_assoc]; rfl
      rw [ew2]
      refine ⟨_, rfl, ?_⟩
      refine k m _ ⟨?_, upd_same, ?_⟩ (f4.trans (Fr.at (by simp))) hs1 hm
      · rw [upd_ne n3]; exact g5 _ _ s3
      · rw [upd_ne n2.symm]; exact g5 _ _ p3
end

end LX
namespace LX
open PySem PySem.Spec PyProof.Rows L2 NdefX
/-! ### the row of objects, plainly -/
structure Ob where
  num : Int
  kind : Int
  sl : List Int
  live : Bool
def fl (o : Ob) : List Int := o.num :: (o.sl.length : Int) :: o.kind :: o.sl
def flat (O : List Ob) : List Int := O.flatMap fl
def off (O : List Ob) (i : Nat) : Nat := (flat (O.take i)).length
theorem flat_app (A B : List Ob) : flat (A ++ B) = flat A ++ flat B := List.flatMap_append
theorem flat_cons (o : Ob) (B : List Ob) : flat (o :: B) = fl o ++ flat B := List.flatMap_cons
theorem fl_len (o : Ob) : (fl o).length = 3 + o.sl.length := by unfold fl; simp; omega
theorem split_at {α : Type} {l : List α} {i : Nat} {x : α} (h : l[i]? = some x) : l = l.take i ++ x :: l.drop (i + 1) := by
  obtain ⟨hi, e⟩ := List.getElem?_eq_some_iff.mp h
  subst e
  rw [List.getElem_cons_drop, List.take_append_drop]
theorem flat_split {O : List Ob} {i : Nat} {o : Ob} (h : O[i]? = some o) : flat O = flat (O.take i) ++ (fl o ++ flat (O.drop (i + 1))) := by
  rw [← flat_cons, ← flat_app, ← split_at h]
theorem flat_set {O : List Ob} {i : Nat} {o o' : Ob} (h : O[i]? = some o) : flat (O.set i o') = flat (O.take i) ++ (fl o' ++ flat (O.drop (i + 1))) := by
  have hi := (List.getElem?_eq_some_iff.mp h).1
  rw [List.set_eq_take_append_cons_drop, if_pos hi, flat_app, flat_cons]
theorem off_lt {O : List Ob} {i : Nat} {o : Ob} (h : O[i]? = some o) : off O i + 3 + o.sl.length ≤ (flat O).length := by
  have := congrArg List.length (flat_split h)
  rw [List.length_append, List.length_append, fl_len] at this
  unfold off
  omega
theorem at_split {α : Type} {A B l : List α} {k : Nat} (hk : k < l.length) : (A ++ (l ++ B))[A.length + k]? = l[k]? := by
  rw [List.getElem?_append_right (by omega), Nat.add_sub_cancel_left, List.getElem?_append_left hk]
theorem flat_at {O : List Ob} {i k : Nat} {o : Ob} (h : O[i]? = some o) (hk : k < (fl o).length) : (flat O)[off O i + k]? = (fl o)[k]? := by
  have e := flat_split h
  have := at_split (A := flat (O.take i)) (B := flat (O.drop (i + 1))) hk
  rw [← e] at this
  exact this
theorem flat_num {O : List Ob} {i : Nat} {o : Ob} (h : O[i]? = some o) : (flat O)[off O i]? = some o.num := flat_at (k := 0) h (by rw [fl_len]; omega)
theorem flat_size {O : List Ob} {i : Nat} {o : Ob} (h : O[i]? = some o) : (flat O)[off O i + 1]? = some (o.sl.length : Int) := flat_at (k := 1) h (by rw [fl_len]; omega)
theorem flat_kind {O : List Ob} {i : Nat} {o : Ob} (h : O[i]? = some o) : (flat O)[off O i + 2]? = some o.kind := flat_at (k := 2) h (by rw [fl_len]; omega)
theorem flat_slots {O : List Ob} {i : Nat} {o : Ob} (h : O[i]? = some o) : seg (flat O) (off O i + 3) o.sl.length = o.sl := by
  unfold seg
  rw [flat_split h, ← List.drop_drop]
  unfold off
  rw [List.drop_left]
  show ((o.sl ++ flat (O.drop (i + 1))).take _) = _
  rw [List.take_left]
theorem set_split {α : Type} {A B l : List α} {k : Nat} {x : α} (hk : k < l.length) : (A ++ (l ++ B)).set (A.length + k) x = A ++ (l.set k x ++ B) := by
  rw [List.set_append_right _ _ (by omega), Nat.add_sub_cancel_left, List.set_append_left _ _ hk]
theorem set_flat {O : List Ob} {i k : Nat} {o o' : Ob} {x : Int} (h : O[i]? = some o) (hk : k < (fl o).length) (e : (fl o).set k x = fl o') : (flat O).set (off O i + k) x = flat (O.set i o') := by
  rw [flat_set h, ← e]
  have := set_split (A := flat (O.take i)) (B := flat (O.drop (i + 1))) (x := x) hk
  rw [← flat_split h] at this
  exact this
theorem set_num {O : List Ob} {i : Nat} {o : Ob} (x : Int) (h : O[i]? = some o) : (flat O).set (off O i) x = flat (O.set i { o with num := x }) := set_flat (k := 0) h (by rw [fl_len]; omega) rfl
theorem set_kind {O : List Ob} {i : Nat} {o : Ob} (x : Int) (h : O[i]? = some o) : (flat O).set (off O i + 2) x = flat (O.set i { o with kind := x }) := set_flat (k := 2) h (by rw [fl_len]; omega) rfl
theorem set_slot {O : List Ob} {i a : Nat} {o : Ob} (x : Int) (h : O[i]? = some o) (ha : a < o.sl.length) : (flat O).set (off O i + 3 + a) x = flat (O.set i { o with sl := o.sl.set a x }) := by
  have := set_flat (k := 3 + a) (o' := { o with sl := o.sl.set a x }) (x := x) h (by rw [fl_len]; omega) (by
    unfold fl
    rw [show 3 + a = a + 1 + 1 + 1 by omega]
    simp)
  rw [← this, Nat.add_assoc]
theorem flat_kill {O : List Ob} {i : Nat} {o : Ob} (h : O[i]? = some o) (b : Bool) : flat (O.set i { o with live := b }) = flat O := by
  rw [flat_set h, flat_split h]; rfl
theorem off_set {O : List Ob} {i j : Nat} {o o' : Ob} (h : O[i]? = some o) (hl : o'.sl.length = o.sl.length) : off (O.set i o') j = off O j := by
  unfold off
  rw [List.take_set]
  by_cases hij : i < j
  · have h' : (O.take j)[i]? = some o := by rw [List.getElem?_take, if_pos hij]; exact h
    rw [flat_set h', flat_split h', List.length_append, List.length_append, List.length_append, List.length_append, fl_len, fl_len, hl]
  · rw [List.set_eq_of_length_le (by rw [List.length_take]; omega)]
theorem off_app {O B : List Ob} {i : Nat} (h : i ≤ O.length) : off (O ++ B) i = off O i := by
  unfold off
  rw [List.take_append_of_le_length h]
theorem off_end {O : List Ob} : off O O.length = (flat O).length := by unfold off; rw [List.take_length]
/-! ### tables -/
section
variable {κ : Type} [DecidableEq κ]
theorem valV_drop (k j : κ) : ∀ kvs : List (κ × V), valV (dropK kvs k) j = if j = k then none else valV kvs j
  | [] => by simp [dropK, valV]
  | p :: r => by
    have ih := valV_drop k j r
    unfold dropK at ih ⊢
    by_cases e : p.1 = k
    · rw [List.filter_cons_of_neg (by simp [e]), ih]
      by_cases hj : j = k
      · rw [if_pos hj, if_pos hj]
      · rw [if_neg hj, if_neg hj, valV_neg (fun z => hj (z.symm.trans e))]
    · rw [List.filter_cons_of_pos (by simp [e])]
      by_cases hp : p.1 = j
      · rw [valV_pos hp, valV_pos hp, if_neg (fun z => e (hp.trans z))]
      · rw [valV_neg hp, valV_neg hp, ih]
theorem nd_drop {kvs : List (κ × V)} {k : κ} (h : (kvs.map (·.1)).Nodup) : ((dropK kvs k).map (·.1)).Nodup := h.sublist (List.Sublist.map _ List.filter_sublist)
theorem mem_val {kvs : List (κ × V)} {k : κ} (h : k ∈ kvs.map (·.1)) : ∃ v, valV kvs k = some v := by
  obtain ⟨p, hp, e⟩ := List.mem_map.mp h
  have : (valV kvs k).isSome = true := by
    rw [← valV_any]
    exact List.any_eq_true.mpr ⟨p, hp, decide_eq_true e⟩
  exact Option.isSome_iff_exists.mp this
theorem nd_put {kvs : List (κ × V)} {k : κ} {v : V} (h : (kvs.map (·.1)).Nodup) : ((putK kvs k v).map (·.1)).Nodup := by
  unfold putK
  split
  · have e : ∀ l : List (κ × V), (l.map (fun kv => if kv.1 = k then (kv.1, v) else kv)).map (·.1) = l.map (·.1) := by
      intro l
      rw [List.map_map]
      apply List.map_congr_left
      intro a _
      show (if a.1 = k then (a.1, v) else a).1 = a.1
      split <;> rfl
    rw [e]; exact h
  · rename_i hn
    rw [List.map_append]
    refine List.nodup_append.mpr ⟨h, by simp, fun a ha b hb e => ?_⟩
    subst e
    have hb : a = k := by simpa using hb
    subst hb
    obtain ⟨v, hv⟩ := mem_val ha
    rw [valV_any, hv] at hn
    exact hn rfl
end
/-- the table and the words tell the row -/
structure Good (O : List Ob) (kvs : List (Key × V)) (least : Int) : Prop where
  val : ∀ k v, valV kvs k = some v ↔ ∃ i o, O[i]? = some o ∧ o.live = true ∧ k = .inl o.num ∧ v = .int (off O i : Nat)
  nd : (kvs.map (·.1)).Nodup
  un : ∀ (i j : Nat) (o o' : Ob), O[i]? = some o → O[j]? = some o' → o.live = true → o'.live = true → o.num = o'.num → i = j
  seen : Seen kvs least
theorem Good.at {O : List Ob} {kvs : List (Key × V)} {least : Int} (G : Good O kvs least) {i : Nat} {o : Ob} (h : O[i]? = some o) (hl : o.live = true) : valV kvs (.inl o.num) = some (.int (off O i : Nat)) := (G.val _ _).mpr ⟨i, o, h, hl, rfl, rfl⟩
theorem Good.ints {O : List Ob} {kvs : List (Key × V)} {least : Int} (G : Good O kvs least) : ∃ ns : List Int, kvs.map (·.1) = ns.map Sum.inl ∧ ns.Perm ((O.filter (·.live)).map (·.num)) := by
  have hk : ∀ k ∈ kvs.map (·.1), ∃ n, k = Sum.inl n := fun k hk => by
    obtain ⟨v, hv⟩ := mem_val hk
    obtain ⟨i, o, _, _, e, _⟩ := (G.val _ _).mp hv
    exact ⟨_, e⟩
  obtain ⟨ns, hns⟩ : ∃ ns : List Int, kvs.map (·.1) = ns.map Sum.inl := by
    generalize kvs.map (·.1) = l at hk
    induction l with
    | nil => exact ⟨[], rfl⟩
    | cons a r ih =>
      obtain ⟨n, e⟩ := hk a List.mem_cons_self
      obtain ⟨m, em⟩ := ih fun k h => hk k (List.mem_cons_of_mem _ h)
      exact ⟨n :: m, by rw [e, em]; rfl⟩
  refine ⟨ns, hns, ?_⟩
  have nd1 : ns.Nodup := by
    have := G.nd
    rw [hns] at this
    exact (List.pairwise_map.mp this).imp fun h e => h (by rw [e])
  have nd2 : ((O.filter (·.live)).map (·.num)).Nodup := by
    have key : ∀ (l : List Ob), (∀ (i j : Nat) (o o' : Ob), l[i]? = some o → l[j]? = some o' → o.live = true → o'.live = true → o.num = o'.num → i = j) → ((l.filter (·.live)).map (·.num)).Nodup := by
      intro l
      induction l with
      | nil => intro _; exact List.nodup_nil
      | cons a r ih =>
        intro h
        have ihr := ih fun i j o o' h1 h2 l1 l2 e => by
          have := h (i + 1) (j + 1) o o' h1 h2 l1 l2 e
          omega
        by_cases ha : a.live = true
        · rw [List.filter_cons_of_pos (by exact ha), List.map_cons]
          refine List.nodup_cons.mpr ⟨fun hm => ?_, ihr⟩
          obtain ⟨o, ho, e⟩ := List.mem_map.mp hm
          obtain ⟨h1, h2⟩ := List.mem_filter.mp ho
          obtain ⟨j, hj⟩ := List.getElem?_of_mem h1
          have := h 0 (j + 1) a o rfl hj ha h2 e.symm
          omega
        · rw [List.filter_cons_of_neg (by exact ha)]
          exact ihr
    exact key O G.un
  refine (List.perm_ext_iff_of_nodup nd1 nd2).mpr fun n => ?_
  have h1 : n ∈ ns ↔ (Sum.inl n : Key) ∈ kvs.map (·.1) := by
    rw [hns]
    constructor
    · exact fun h => List.mem_map.mpr ⟨n, h, rfl⟩
    · intro h
      obtain ⟨m, hm, e⟩ := List.mem_map.mp h
      cases e
      exact hm
  rw [h1]
  constructor
  · intro h
    obtain ⟨v, hv⟩ := mem_val h
    obtain ⟨i, o, q1, q2, q3, _⟩ := (G.val _ _).mp hv
    cases q3
    exact List.mem_map.mpr ⟨o, List.mem_filter.mpr ⟨List.mem_of_getElem? q1, q2⟩, rfl⟩
  · intro h
    obtain ⟨o, ho, e⟩ := List.mem_map.mp h
    obtain ⟨h1, h2⟩ := List.mem_filter.mp ho
    obtain ⟨i, hi⟩ := List.getElem?_of_mem h1
    have := val_mem (G.at hi h2)
    rw [e] at this
    exact List.mem_map.mpr ⟨_, this, rfl⟩
theorem set_get {O : List Ob} {i j : Nat} {o o' : Ob} (h : O[i]? = some o) : (O.set i o')[j]? = if j = i then some o' else O[j]? := by
  have hi := (List.getElem?_eq_some_iff.mp h).1
  rw [List.getElem?_set]
  by_cases e : i = j
  · subst e; simp [hi]
  · rw [if_neg e, if_neg (Ne.symm e)]
/-- the contents of an object change -/
theorem Good.same {O : List Ob} {kvs : List (Key × V)} {least : Int} (G : Good O kvs least) {i : Nat} {o o' : Ob} (h : O[i]? = some o) (hn : o'.num = o.num) (hv : o'.live = o.live) (hl : o'.sl.length = o.sl.length) : Good (O.set i o') kvs least := by
  refine ⟨fun k v => ?_, G.nd, fun a b x y ha hb la lb e => ?_, G.seen⟩
  · rw [G.val k v]
    constructor
    · rintro ⟨j, x, hj, lx, rfl, rfl⟩
      by_cases e : j = i
      · subst e
        rw [h] at hj; cases hj
        exact ⟨j, o', by rw [set_get h, if_pos rfl], by rw [hv]; exact lx, by rw [hn], by rw [off_set h hl]⟩
      · exact ⟨j, x, by rw [set_get h, if_neg e]; exact hj, lx, rfl, by rw [off_set h hl]⟩
    · rintro ⟨j, x, hj, lx, rfl, rfl⟩
      rw [set_get h] at hj
      rw [off_set h hl]
      by_cases e : j = i
      · subst e
        rw [if_pos rfl] at hj; cases hj
        exact ⟨j, o, h, by rw [← hv]; exact lx, by rw [hn], rfl⟩
      · rw [if_neg e] at hj
        exact ⟨j, x, hj, lx, rfl, rfl⟩
  · have g : ∀ (a : Nat) (x : Ob), (O.set i o')[a]? = some x → ∃ z, O[a]? = some z ∧ z.live = x.live ∧ z.num = x.num := fun a x ha => by
      rw [set_get h] at ha
      by_cases e : a = i
      · subst e; rw [if_pos rfl] at ha; cases ha
        exact ⟨o, h, hv.symm, hn.symm⟩
      · rw [if_neg e] at ha; exact ⟨x, ha, rfl, rfl⟩
    obtain ⟨z1, q1, q2, q3⟩ := g a x ha
    obtain ⟨z2, r1, r2, r3⟩ := g b y hb
    exact G.un a b z1 z2 q1 r1 (q2.trans la) (r2.trans lb) (by rw [q3, r3, e])
theorem Good.kill {O : List Ob} {kvs : List (Key × V)} {least : Int} (G : Good O kvs least) {i : Nat} {o : Ob} (h : O[i]? = some o) (ho : o.live = true) (hn : 0 ≤ o.num) :
    Good (O.set i { o with live := false }) (dropK kvs (.inl o.num)) (if o.num < least then o.num else least) := by
  refine ⟨fun k v => ?_, nd_drop G.nd, fun a b x y ha hb la lb e => ?_, ?_⟩
  · rw [valV_drop]
    constructor
    · intro hv
      split at hv
      · cases hv
      · rename_i hk
        obtain ⟨j, x, hj, lx, rfl, rfl⟩ := (G.val _ _).mp hv
        have e : j ≠ i := fun e => by subst e; rw [h] at hj; cases hj; exact hk rfl
        exact ⟨j, x, by rw [set_get h, if_neg e]; exact hj, lx, rfl, by rw [off_set (o' := { o with live := false }) h rfl]⟩
    · rintro ⟨j, x, hj, lx, rfl, rfl⟩
      rw [set_get h] at hj
      rw [off_set (o' := { o with live := false }) h rfl]
      by_cases e : j = i
      · subst e; rw [if_pos rfl] at hj; cases hj; cases lx
      · rw [if_neg e] at hj
        rw [if_neg (fun z => e (G.un j i x o hj h lx ho (Sum.inl.inj z)))]
        exact (G.val _ _).mpr ⟨j, x, hj, lx, rfl, rfl⟩
  · have g : ∀ (a : Nat) (x : Ob), x.live = true → (O.set i { o with live := false })[a]? = some x → O[a]? = some x := fun a x lx ha => by
      rw [set_get h] at ha
      by_cases e : a = i
      · subst e; rw [if_pos rfl] at ha; cases ha; cases lx
      · rw [if_neg e] at ha; exact ha
    exact G.un a b x y (g a x la ha) (g b y lb hb) la lb e
  · have hs := G.seen
    refine ⟨by split; exact hn; exact hs.1, fun n h0 h1 => ?_⟩
    rw [valV_drop]
    have h2 : n < o.num ∧ n < least ∨ ¬ o.num < least ∧ n < least := by split at h1 <;> omega
    rw [if_neg (fun z => by have := Sum.inl.inj z; omega)]
    exact hs.2 n h0 (by omega)
def swapO (O : List Ob) (i j : Nat) (a b : Ob) : List Ob := (O.set i { a with num := b.num }).set j { b with num := a.num }
theorem swap_get {O : List Ob} {i j k : Nat} {a b : Ob} (ha : O[i]? = some a) (hb : O[j]? = some b) : (swapO O i j a b)[k]? = if k = j then some { b with num := a.num } else if k = i then some { a with num := b.num } else O[k]? := by
  unfold swapO
  have hj : (O.set i { a with num := b.num })[j]? = some (if j = i then { a with num := b.num } else b) := by
    rw [set_get ha]
    split
    · rfl
    · exact hb
  rw [set_get hj, set_get ha]
theorem swap_off {O : List Ob} {i j k : Nat} {a b : Ob} (ha : O[i]? = some a) (hb : O[j]? = some b) : off (swapO O i j a b) k = off O k := by
  unfold swapO
  have hj : (O.set i { a with num := b.num })[j]? = some (if j = i then { a with num := b.num } else b) := by
    rw [set_get ha]
    split
    · rfl
    · exact hb
  rw [off_set hj, off_set ha] <;> (try rfl)
  split
  · rename_i e; subst e; rw [ha] at hb; cases hb; rfl
  · rfl
theorem swap_flat {O : List Ob} {i j : Nat} {a b : Ob} (ha : O[i]? = some a) (hb : O[j]? = some b) : ((flat O).set (off O i) b.num).set (off O j) a.num = flat (swapO O i j a b) := by
  have hj : (O.set i { a with num := b.num })[j]? = some (if j = i then { a with num := b.num } else b) := by
    rw [set_get ha]
    split
    · rfl
    · exact hb
  rw [set_num b.num ha]
  have e : off O j = off (O.set i { a with num := b.num }) j := (off_set (o' := { a with num := b.num }) ha rfl).symm
  rw [e, set_num a.num hj]
  unfold swapO
  congr 1
  by_cases q : j = i
  · subst q; rw [ha] at hb; cases hb
    rw [if_pos rfl]
  · rw [if_neg q]
theorem Good.swap {O : List Ob} {kvs : List (Key × V)} {least : Int} (G : Good O kvs least) {i j : Nat} {a b : Ob} (ha : O[i]? = some a) (hb : O[j]? = some b) (la : a.live = true) (lb : b.live = true) :
    Good (swapO O i j a b) (putK (putK kvs (.inl a.num) (.int (off O j : Nat))) (.inl b.num) (.int (off O i : Nat))) least := by
  have vv : ∀ k, valV (putK (putK kvs (.inl a.num) (.int (off O j : Nat))) (.inl b.num) (.int (off O i : Nat))) k = if k = .inl b.num then some (.int (off O i : Nat)) else if k = .inl a.num then some (.int (off O j : Nat)) else valV kvs k := fun k => by rw [valV_put, valV_put]
  refine ⟨fun k v => ?_, nd_put (nd_put G.nd), fun p q x y hp hq lx ly e => ?_, G.seen.1, fun n h0 h1 => ?_⟩
  · rw [vv]
    constructor
    · intro hv
      split at hv
      · rename_i hk
        cases hv
        by_cases q : i = j
        · subst q; rw [ha] at hb; cases hb
          exact ⟨i, { a with num := a.num }, by rw [swap_get ha ha, if_pos rfl], la, hk, by rw [swap_off ha ha]⟩
        · exact ⟨i, { a with num := b.num }, by rw [swap_get ha hb, if_neg q, if_pos rfl], la, hk, by rw [swap_off ha hb]⟩
      · split at hv
        · rename_i hk
          cases hv
          exact ⟨j, { b with num := a.num }, by rw [swap_get ha hb, if_pos rfl], lb, hk, by rw [swap_off ha hb]⟩
        · rename_i k1 k2
          obtain ⟨m, x, hm, lx, rfl, rfl⟩ := (G.val _ _).mp hv
          have e1 : m ≠ j := fun e => by subst e; rw [hb] at hm; cases hm; exact k1 rfl
          have e2 : m ≠ i := fun e => by subst e; rw [ha] at hm; cases hm; exact k2 rfl
          exact ⟨m, x, by rw [swap_get ha hb, if_neg e1, if_neg e2]; exact hm, lx, rfl, by rw [swap_off ha hb]⟩
    · rintro ⟨m, x, hm, lx, rfl, rfl⟩
      rw [swap_get ha hb] at hm
      rw [swap_off ha hb]
      by_cases e1 : m = j
      · subst e1
        rw [if_pos rfl] at hm; cases hm
        by_cases q : a.num = b.num
        · have := G.un i m a b ha hb la lb q
          subst this
          rw [if_pos (by rw [q])]
        · rw [if_neg (fun z => q (Sum.inl.inj z)), if_pos rfl]
      · rw [if_neg e1] at hm
        by_cases e2 : m = i
        · subst e2
          rw [if_pos rfl] at hm; cases hm
          rw [if_pos rfl]
        · rw [if_neg e2] at hm
          rw [if_neg (fun z => e1 (G.un m j x b hm hb lx lb (Sum.inl.inj z))), if_neg (fun z => e2 (G.un m i x a hm ha lx la (Sum.inl.inj z)))]
          exact (G.val _ _).mpr ⟨m, x, hm, lx, rfl, rfl⟩
  · rw [swap_get ha hb] at hp hq
    by_cases p1 : p = j <;> by_cases q1 : q = j
    · omega
    · subst p1
      rw [if_pos rfl] at hp; cases hp
      rw [if_neg q1] at hq
      by_cases q2 : q = i
      · subst q2; rw [if_pos rfl] at hq; cases hq
        exact (G.un q p a b ha hb la lb e).symm
      · rw [if_neg q2] at hq
        exact absurd (G.un i q a y ha hq la ly e).symm q2
    · subst q1
      rw [if_pos rfl] at hq; cases hq
      rw [if_neg p1] at hp
      by_cases p2 : p = i
      · subst p2; rw [if_pos rfl] at hp; cases hp
        exact G.un p q a b ha hb la lb e.symm
      · rw [if_neg p2] at hp
        exact absurd (G.un p i x a hp ha lx la e) p2
    · rw [if_neg p1] at hp
      rw [if_neg q1] at hq
      by_cases p2 : p = i <;> by_cases q2 : q = i
      · omega
      · subst p2; rw [if_pos rfl] at hp; cases hp
        rw [if_neg q2] at hq
        exact absurd (G.un j q b y hb hq lb ly e).symm q1
      · subst q2; rw [if_pos rfl] at hq; cases hq
        rw [if_neg p2] at hp
        exact absurd (G.un p j x b hp hb lx lb e) p1
      · rw [if_neg p2] at hp; rw [if_neg q2] at hq
        exact G.un p q x y hp hq lx ly e
  · rw [vv]
    split
    · rfl
    · split
      · rfl
      · exact G.seen.2 n h0 h1
theorem Good.add {O : List Ob} {kvs : List (Key × V)} {least : Int} (G : Good O kvs least) {o : Ob} (ho : o.live = true) (hn : valV kvs (.inl o.num) = none) (hs : Seen kvs o.num) :
    Good (O ++ [o]) (putK kvs (.inl o.num) (.int (flat O).length)) o.num := by
  have no : ∀ (i : Nat) (x : Ob), O[i]? = some x → x.live = true → x.num ≠ o.num := fun i x hi lx e => by
    have := G.at hi lx
    rw [e, hn] at this
    cases this
  have ga : ∀ k : Nat, (O ++ [o])[k]? = if k < O.length then O[k]? else if k = O.length then some o else none := fun k => by
    by_cases h : k < O.length
    · rw [if_pos h, List.getElem?_append_left h]
    · rw [if_neg h, List.getElem?_append_right (by omega)]
      by_cases h2 : k = O.length
      · rw [if_pos h2, h2, Nat.sub_self]; rfl
      · rw [if_neg h2]
        exact List.getElem?_eq_none_iff.mpr (by simp; omega)
  refine ⟨fun k v => ?_, nd_put G.nd, fun p q x y hp hq lx ly e => ?_, hs.1, fun n h0 h1 => ?_⟩
  · rw [valV_put]
    constructor
    · intro hv
      split at hv
      · rename_i hk
        cases hv
        exact ⟨O.length, o, by rw [ga, if_neg (by omega), if_pos rfl], ho, hk, by rw [off_app (Nat.le_refl _), off_end]⟩
      · obtain ⟨m, x, hm, lx, rfl, rfl⟩ := (G.val _ _).mp hv
        have hl := (List.getElem?_eq_some_iff.mp hm).1
        exact ⟨m, x, by rw [ga, if_pos hl]; exact hm, lx, rfl, by rw [off_app (by omega)]⟩
    · rintro ⟨m, x, hm, lx, rfl, rfl⟩
      rw [ga] at hm
      by_cases hl : m < O.length
      · rw [if_pos hl] at hm
        rw [off_app (by omega), if_neg (fun z => no m x hm lx (Sum.inl.inj z))]
        exact (G.val _ _).mpr ⟨m, x, hm, lx, rfl, rfl⟩
      · rw [if_neg hl] at hm
        split at hm
        · rename_i e; cases hm
          rw [if_pos rfl, e, off_app (Nat.le_refl _), off_end]
        · cases hm
  · rw [ga] at hp hq
    split at hp
    · split at hq
      · exact G.un p q x y hp hq lx ly e
      · split at hq
        · cases hq; exact absurd e (no p x hp lx)
        · cases hq
    · split at hp
      · cases hp
        split at hq
        · exact absurd e.symm (no q y hq ly)
        · split at hq
          · omega
          · cases hq
      · cases hp
  · rw [valV_put]
    split
    · rfl
    · exact hs.2 n h0 h1

end LX
namespace LX
open PySem PySem.Spec PyProof.Rows L2 NdefX
/-! ### the row in the heap -/
structure RowAt (H : Hp) (rl : Addr) (A : List (Addr × Addr)) (O : List Ob) : Prop where
  rl : H rl = some (.lst (A.map fun a => V.ref a.1))
  len : A.length = O.length
  it : ∀ (i : Nat) (a : Addr × Addr) (o : Ob), A[i]? = some a → O[i]? = some o → H a.1 = some (.lst [.int o.num, .int o.kind, .ref a.2, .bl o.live]) ∧ H a.2 = some (.lst (o.sl.map V.int))
structure Sep (A : List (Addr × Addr)) (rl : Addr) (X : List Addr) : Prop where
  d1 : ∀ (i j : Nat) (a b : Addr × Addr), A[i]? = some a → A[j]? = some b → (a.1 = b.1 ∨ a.2 = b.2) → i = j
  d2 : ∀ a b, a ∈ A → b ∈ A → a.1 ≠ b.2
  d3 : ∀ a ∈ A, a.1 ≠ rl ∧ a.2 ≠ rl
  d4 : rl ∉ X
  d5 : ∀ a ∈ A, a.1 ∉ X ∧ a.2 ∉ X
theorem RowAt.keep {H H' : Hp} {rl : Addr} {A : List (Addr × Addr)} {O : List Ob} {F : List Addr} (R : RowAt H rl A O) (f : Fr F H H') (h1 : rl ∉ F) (h2 : ∀ a ∈ A, a.1 ∉ F ∧ a.2 ∉ F) : RowAt H' rl A O :=
  ⟨f _ _ R.rl h1, R.len, fun i a o ha ho => ⟨f _ _ (R.it i a o ha ho).1 (h2 a (List.mem_of_getElem? ha)).1, f _ _ (R.it i a o ha ho).2 (h2 a (List.mem_of_getElem? ha)).2⟩⟩
theorem RowAt.mono {H H' : Hp} {rl : Addr} {A : List (Addr × Addr)} {O : List Ob} (R : RowAt H rl A O) (f : Fr [] H H') : RowAt H' rl A O := R.keep f (by simp) (by simp)
theorem RowAt.get {H : Hp} {rl : Addr} {A : List (Addr × Addr)} {O : List Ob} (R : RowAt H rl A O) {i : Nat} {o : Ob} (h : O[i]? = some o) : ∃ a, A[i]? = some a ∧ H a.1 = some (.lst [.int o.num, .int o.kind, .ref a.2, .bl o.live]) ∧ H a.2 = some (.lst (o.sl.map V.int)) := by
  have hi := (List.getElem?_eq_some_iff.mp h).1
  have hA : i < A.length := by rw [R.len]; exact hi
  exact ⟨A[i], List.getElem?_eq_getElem hA, R.it i _ o (List.getElem?_eq_getElem hA) h⟩
theorem RowAt.set {H H' : Hp} {rl : Addr} {A : List (Addr × Addr)} {O : List Ob} {X : List Addr} (R : RowAt H rl A O) (D : Sep A rl X) {i : Nat} {a : Addr × Addr} {o o' : Ob} (ha : A[i]? = some a) (ho : O[i]? = some o)
    (h1 : H' a.1 = some (.lst [.int o'.num, .int o'.kind, .ref a.2, .bl o'.live])) (h2 : H' a.2 = some (.lst (o'.sl.map V.int))) (f : Fr (a.1 :: a.2 :: X) H H') : RowAt H' rl A (O.set i o') := by
  have ma := List.mem_of_getElem? ha
  refine ⟨f _ _ R.rl (by have := D.d3 a ma; simp [this.1.symm, this.2.symm, D.d4]), by rw [List.length_set]; exact R.len, fun j b x hb hx => ?_⟩
  rw [set_get ho] at hx
  by_cases e : j = i
  · subst e
    rw [if_pos rfl] at hx; cases hx
    rw [ha] at hb; cases hb
    exact ⟨h1, h2⟩
  · rw [if_neg e] at hx
    have mb := List.mem_of_getElem? hb
    have n1 : b.1 ≠ a.1 := fun z => e (D.d1 j i b a hb ha (Or.inl z))
    have n2 : b.2 ≠ a.2 := fun z => e (D.d1 j i b a hb ha (Or.inr z))
    have n3 : b.1 ≠ a.2 := D.d2 b a mb ma
    have n4 : b.2 ≠ a.1 := (D.d2 a b ma mb).symm
    obtain ⟨q1, q2⟩ := R.it j b x hb hx
    exact ⟨f _ _ q1 (by simp [n1, n3, (D.d5 b mb).1]), f _ _ q2 (by simp [n2, n4, (D.d5 b mb).2])⟩
def ad (A : List (Addr × Addr)) : List Addr := A.flatMap fun a => [a.1, a.2]
theorem ad_mem {A : List (Addr × Addr)} {a : Addr × Addr} (h : a ∈ A) : a.1 ∈ ad A ∧ a.2 ∈ ad A :=
  ⟨List.mem_flatMap.mpr ⟨a, h, by simp⟩, List.mem_flatMap.mpr ⟨a, h, by simp⟩⟩
def Zl (A : List (Addr × Addr)) (O : List Ob) : List ((Addr × Addr) × Ob) := (A.zip O).filter (·.2.live)
theorem Zl_get {A : List (Addr × Addr)} {O : List Ob} {z : (Addr × Addr) × Ob} (h : z ∈ Zl A O) : ∃ i : Nat, A[i]? = some z.1 ∧ O[i]? = some z.2 ∧ z.2.live = true := by
  obtain ⟨h1, h2⟩ := List.mem_filter.mp h
  obtain ⟨i, hi⟩ := List.getElem?_of_mem h1
  obtain ⟨q1, q2⟩ := List.getElem?_zip_eq_some.mp hi
  exact ⟨i, q1, q2, h2⟩
theorem Zl_snd {A : List (Addr × Addr)} {O : List Ob} (h : A.length = O.length) : (Zl A O).map (·.2) = O.filter (·.live) := by
  unfold Zl
  have : ∀ (A : List (Addr × Addr)) (O : List Ob), A.length = O.length → ((A.zip O).filter (·.2.live)).map (·.2) = O.filter (·.live) := by
    intro A
    induction A with
    | nil => intro O h; cases O with
      | nil => rfl
      | cons => simp at h
    | cons a r ih => intro O h; cases O with
      | nil => simp at h
      | cons o t =>
        have := ih t (by simpa using h)
        rw [List.zip_cons_cons]
        by_cases q : o.live = true
        · rw [List.filter_cons_of_pos (by exact q), List.filter_cons_of_pos (by exact q), List.map_cons, this]
        · rw [List.filter_cons_of_neg (by exact q), List.filter_cons_of_neg (by exact q), this]
  exact this A O h
theorem take_filter_yes {α : Type} {l : List α} {p : α → Bool} {i : Nat} {x : α} (h : l[i]? = some x) (hp : p x = true) : (l.take (i + 1)).filter p = (l.take i).filter p ++ [x] := by
  rw [List.take_succ, h, List.filter_append]
  simp [hp]
theorem take_filter_no {α : Type} {l : List α} {p : α → Bool} {i : Nat} {x : α} (h : l[i]? = some x) (hp : p x = false) : (l.take (i + 1)).filter p = (l.take i).filter p := by
  rw [List.take_succ, h, List.filter_append]
  simp [hp]
section
variable {P : Program} {w : World} {K : PySem.W.Frag} {mg : Str → Option Value} {base : Heap}
def sp_living : Sp := fun vs H Q _ => ∃ rl A O, vs = [.ref rl] ∧ RowAt H rl A O ∧ O.length ≤ 1000 ∧ ∀ L, H L = none → Q (.ref L) (upd H L (.lst ((Zl A O).map fun z => V.ref z.1.1)))
theorem ok__law_living (W : WT P K mg base) : FnOk P w K mg base CX0 1 W.f__law_living W.fd__law_living ["_law_row"] sp_living := by
  refine W.F__law_living.ok sc__law_living (fun vs H Q E h => ?_) (fun cdv A outer s H vs Q E hr h => ?_)
  · obtain ⟨rl, A, O, rfl, _⟩ := h
    rfl
  · obtain ⟨rl, A, O, rfl, R, hO, k⟩ := h
    have hu1 := hu_of hr
    have hu64 := hu64_of hr
    refine ⟨_, (pss_one (ps_ret (pe_lc (own := [("_law_one", 1)]) (g := gName 1)  rfl sc__law_living.nd (pi_list (pv 0)) (blkOk_by (N := N__law_living) (sc := defScope s__law_living) (by decide +kernel)) (fun _ _ _ _ _ => (pg_name (i := 1) sc__law_living.nd rfl (by first | exact Or.inl rfl | exact Or.inr rfl))) (fun _ _ _ _ _ => pts_one (pt_truthK (K := K) rfl (pe_ix (ix_UK (K := K) rfl (by exact hu1)) (pv 1) pe_int (fun _ _ => rfl)) (by intro _; rfl))) (fun _ _ _ _ _ => (pv 1))))), ?_⟩
    refine ⟨_, rfl, rl, rfl, ⟨_, SqL.of R.rl⟩, fun L hL => ?_⟩
    have hz : (A.zip O).length = A.length := by rw [List.length_zip, R.len]; omega
    refine lc_list (K := K) (a := rl) (xs := A.map fun a => V.ref a.1) (fun i H' => H' = upd H L (.lst ((((A.zip O).take i).filter (·.2.live)).map fun z => V.ref z.1.1))) rfl (fun i H' _ e => ?_) (fun i x H' hx e => ?_) (fun H' e => ?_)
    · subst e
      exact SqL.of (by rw [upd_ne (ne_of_none R.rl hL)]; exact R.rl)
    · subst e
      rw [List.getElem?_map] at hx
      obtain ⟨a, ha, rfl⟩ := Option.map_eq_some_iff.mp hx
      have hi : i < O.length := by rw [← R.len]; exact (List.getElem?_eq_some_iff.mp ha).1
      have ho := List.getElem?_eq_getElem hi
      obtain ⟨q1, q2⟩ := R.it i a _ ha ho
      have q1' := Fr.new (F := []) (o := .lst ((((A.zip O).take i).filter (·.2.live)).map fun z => V.ref z.1.1)) hL a.1 _ q1 (by simp)
      have hzi : (A.zip O)[i]? = some (a, O[i]) := List.getElem?_zip_eq_some.mpr ⟨ha, ho⟩
      refine ⟨rfl, ?_⟩
      refine ⟨_, rfl, Or.inl ⟨_, _, _, rfl, Or.inl (SqL.of q1'), rfl, ?_⟩⟩
      refine ⟨_, rfl, ?_⟩
      cases hv : O[i].live with
      | true =>
        refine iteT ?_
        refine ⟨_, rfl, _, upd_same, ?_, ?_⟩
        · rw [List.length_map, sizeLine_eq]
          have := List.length_filter_le (fun z : (Addr × Addr) × Ob => z.2.live) ((A.zip O).take i)
          rw [List.length_take] at this
          omega
        · rw [upd_upd, take_filter_yes hzi hv, List.map_append]; rfl
      | false =>
        refine iteF ?_
        rw [take_filter_no hzi hv]
    · subst e
      rw [List.length_map, ← hz, List.take_length]
      exact k L hL
theorem Fr.skip {F : List Addr} {H H' : Hp} {q : Addr} {o : HO} (f : Fr F H H') (hq : H q = none) : Fr F H (upd H' q o) := fun b u e n => by rw [upd_ne (ne_of_none e hq)]; exact f b u e n
theorem flat_take {O : List Ob} {i : Nat} {o : Ob} (h : O[i]? = some o) : flat (O.take (i + 1)) = flat (O.take i) ++ [o.num, (o.sl.length : Int), o.kind] ++ o.sl := by
  rw [List.take_succ, h, flat_app]
  show flat (O.take i) ++ (fl o ++ []) = _
  rw [List.append_nil, List.append_assoc]
  rfl
def sp_flat : Sp := fun vs H Q _ => ∃ rl A O, vs = [.ref rl] ∧ RowAt H rl A O ∧ (flat O).length ≤ 100000 ∧ ∀ L H', H L = none → IsI H' L (flat O) → Fr [] H H' → Q (.ref L) H'
theorem ok__law_flat (W : WT P K mg base) : FnOk P w K mg base CX0 1 W.f__law_flat W.fd__law_flat ["_law_row"] sp_flat := by
  refine W.F__law_flat.ok sc__law_flat (fun vs H Q E h => ?_) (fun cdv A outer s H vs Q E hr h => ?_)
  · obtain ⟨rl, A, O, rfl, _⟩ := h
    rfl
  · obtain ⟨rl, A, O, rfl, R, hO, k⟩ := h
    have hu1 := hu_of hr
    have hu64 := hu64_of hr
    refine ⟨_, (pss_cons (ps_set (i := 1) sc__law_flat.nd rfl (by first | exact Or.inl rfl | exact Or.inr rfl) (pe_lst pa_nil))
      (pss_cons (ps_for PassesOwn.never rfl (pi_list (pv 0)) (pg_name (i := 2) sc__law_flat.nd rfl (by first | exact Or.inl rfl | exact Or.inr rfl)) (pss_cons (ps_expr (pe_bm PySem.F.plainAttrs_list PySem.F.slot_list_extend PySem.F.type_list_extend mt_extend (pv 1) (pa_cons (pe_lst (pa_cons (pe_ix (ix_U hu1) (pv 2) pe_int (fun _ _ => rfl)) (pa_cons (pe_callB call_lenU (by rfl) W.n_len bb_len (pa_cons (pe_ix (ix_U hu1) (pv 2) pe_int (fun _ _ => rfl)) pa_nil)) (pa_cons (pe_ix (ix_U hu1) (pv 2) pe_int (fun _ _ => rfl)) pa_nil)))) pa_nil)))
      (pss_one (ps_expr (pe_bm PySem.F.plainAttrs_list PySem.F.slot_list_extend PySem.F.type_list_extend mt_extend (pv 1) (pa_cons (pe_ix (ix_U hu1) (pv 2) pe_int (fun _ _ => rfl)) pa_nil))))))
      (pss_one (ps_ret (pv 1))))), ?_⟩
    refine ⟨(by show 0 ≤ sizeLine; decide), fun L hL => ?_⟩
    refine ⟨_, rfl, rl, rfl, ⟨_, SqL.of (by rw [upd_ne (ne_of_none R.rl hL)]; exact R.rl)⟩, ?_⟩
    refine for_list (K := K) (a := rl) (xs := A.map fun a => V.ref a.1) (fun i σ H' => (∃ v, σ = [some (.ref rl), some (.ref L), v]) ∧ IsI H' L (flat (O.take i)) ∧ Fr [] H H') ⟨⟨_, rfl⟩, upd_same, Fr.new hL⟩ (fun i σ H' _ e => ?_) (fun i x σ H' hx e => ?_) (fun σ H' e => ?_)
    · exact SqL.of (R.mono e.2.2).rl
    · obtain ⟨⟨v, rfl⟩, hI, f⟩ := e
      have R1 := R.mono f
      rw [List.getElem?_map] at hx
      obtain ⟨a, ha, rfl⟩ := Option.map_eq_some_iff.mp hx
      have hi : i < O.length := by rw [← R.len]; exact (List.getElem?_eq_some_iff.mp ha).1
      have ho := List.getElem?_eq_getElem hi
      generalize O[i] = o at ho
      obtain ⟨q1, q2⟩ := R1.it i a _ ha ho
      have hb := off_lt ho
      unfold off at hb
      refine ⟨_, rfl, Or.inl ⟨rfl, _, SqL.of hI⟩, ?_⟩
      refine ⟨_, rfl, Or.inl ⟨_, _, _, rfl, Or.inl (SqL.of q1), rfl, ?_⟩⟩
      refine ⟨_, rfl, Or.inl ⟨_, _, _, rfl, Or.inl (SqL.of q1), rfl, Or.inl ⟨_, Or.inl (SqL.of q2), ?_⟩⟩⟩
      rw [List.length_map]
      refine ⟨_, rfl, Or.inl ⟨_, _, _, rfl, Or.inl (SqL.of q1), rfl, ?_⟩⟩
      refine ⟨(by show 3 ≤ sizeLine; decide), fun q hq => ?_⟩
      have nL : L ≠ q := ne_of_none hI hq
      refine ⟨L, q, _, _, rfl, rfl, (by rw [upd_ne nL]; exact hI), upd_same, (by rw [List.length_map, sizeLine_eq]; show (flat (O.take i)).length + 3 ≤ _; omega), ?_⟩
      have e1 : (flat (O.take i)).map V.int ++ [V.int o.num, V.int (o.sl.length : Int), V.int o.kind] = (flat (O.take i) ++ [o.num, (o.sl.length : Int), o.kind]).map V.int := by rw [List.map_append]; rfl
      rw [e1]
      have f2 : Fr [] H (upd (upd H' q (.lst [V.int o.num, V.int (o.sl.length : Int), V.int o.kind])) L (.lst ((flat (O.take i) ++ [o.num, (o.sl.length : Int), o.kind]).map V.int))) := (f.trans (Fr.new hq)).skip hL
      generalize eH : upd (upd H' q (.lst [V.int o.num, V.int (o.sl.length : Int), V.int o.kind])) L (.lst ((flat (O.take i) ++ [o.num, (o.sl.length : Int), o.kind]).map V.int)) = H2 at f2
      have hI2 : IsI H2 L (flat (O.take i) ++ [o.num, (o.sl.length : Int), o.kind]) := by rw [← eH]; exact upd_same
      obtain ⟨q1, q2⟩ := (R.mono f2).it i a _ ha ho
      refine ⟨_, rfl, Or.inl ⟨rfl, _, SqL.of hI2⟩, ?_⟩
      refine ⟨_, rfl, Or.inl ⟨_, _, _, rfl, Or.inl (SqL.of q1), rfl, ?_⟩⟩
      refine ⟨L, a.2, _, _, rfl, rfl, hI2, q2, ?_, ?_⟩
      · simp only [List.length_map, List.length_append]
        rw [sizeLine_eq]; show (flat (O.take i)).length + 3 + o.sl.length ≤ _; omega
      · refine ⟨⟨_, rfl⟩, ?_, f2.skip hL⟩
        rw [flat_take ho]
        show upd _ _ _ _ = _
        rw [upd_same, List.map_append (l₂ := o.sl)]
    · obtain ⟨⟨v, rfl⟩, hI, f⟩ := e
      refine ⟨_, rfl, k L H' hL ?_ f⟩
      rw [List.length_map, R.len, List.take_length] at hI
      exact hI
end

end LX
namespace LX
open PySem PySem.Spec PyProof.Rows L2 NdefX
theorem Fr.of {F : List Addr} {H H' : Hp} {x y : Addr} (h : ∀ b, b ≠ x → b ≠ y → H' b = H b) (hx : x ∈ F) (hy : y ∈ F) : Fr F H H' := fun b o e n => by
  rw [h b (fun z => n (by rw [z]; exact hx)) (fun z => n (by rw [z]; exact hy))]; exact e
theorem StoreAt.keep {H H' : Hp} {C st dx wl pl : Addr} {room entries least : Int} {ws : List Int} {kvs : List (Key × V)} {F : List Addr} (S : StoreAt H C st dx wl pl room entries least ws kvs) (f : Fr F H H') (h : ∀ b, b ∈ [st, wl, pl] → b ∉ F) : StoreAt H' C st dx wl pl room entries least ws kvs :=
  ⟨f _ _ S.st (h _ (by simp)), f _ _ S.wl (h _ (by simp)), f _ _ S.pl (h _ (by simp))⟩
theorem RowAt.setItem {H H' : Hp} {rl : Addr} {A : List (Addr × Addr)} {O : List Ob} {X : List Addr} (R : RowAt H rl A O) (D : Sep A rl X) {i : Nat} {a : Addr × Addr} {o o' : Ob} (ha : A[i]? = some a) (ho : O[i]? = some o) (hs : o'.sl = o.sl)
    (h1 : H' a.1 = some (.lst [.int o'.num, .int o'.kind, .ref a.2, .bl o'.live])) (f : Fr (a.1 :: X) H H') : RowAt H' rl A (O.set i o') := by
  have ma := List.mem_of_getElem? ha
  refine R.set D ha ho h1 ?_ (f.mono fun b hb => by rcases List.mem_cons.mp hb with h | h <;> simp [h])
  rw [hs]
  exact f _ _ (R.it i a o ha ho).2 (by simp [(D.d2 a a ma ma).symm, (D.d5 a ma).2])
theorem RowAt.setSl {H H' : Hp} {rl : Addr} {A : List (Addr × Addr)} {O : List Ob} {X : List Addr} (R : RowAt H rl A O) (D : Sep A rl X) {i : Nat} {a : Addr × Addr} {o o' : Ob} (ha : A[i]? = some a) (ho : O[i]? = some o) (hn : o'.num = o.num) (hk : o'.kind = o.kind) (hv : o'.live = o.live)
    (h2 : H' a.2 = some (.lst (o'.sl.map V.int))) (f : Fr (a.2 :: X) H H') : RowAt H' rl A (O.set i o') := by
  have ma := List.mem_of_getElem? ha
  refine R.set D ha ho ?_ h2 (f.mono fun b hb => by rcases List.mem_cons.mp hb with h | h <;> simp [h])
  rw [hn, hk, hv]
  exact f _ _ (R.it i a o ha ho).1 (by simp [(D.d2 a a ma ma), (D.d5 a ma).1])
/-- the store and the row of the law -/
structure Law4 (C : Addr) (H : Hp) (st dx wl pl rl : Addr) (A : List (Addr × Addr)) (O : List Ob) (kvs : List (Key × V)) (least : Int) : Prop where
  S : StoreAt H C st dx wl pl 100000 100000 least (flat O) kvs
  G : Good O kvs least
  R : RowAt H rl A O
  D : Sep A rl [st, wl, pl]
  sz : ∀ o ∈ O, o.sl.length ≤ 39
  nn : ∀ o ∈ O, 0 ≤ o.num
theorem Law4.keep {C : Addr} {H H' : Hp} {st dx wl pl rl : Addr} {A : List (Addr × Addr)} {O : List Ob} {kvs : List (Key × V)} {least : Int} (L : Law4 C H st dx wl pl rl A O kvs least) (f : Fr [] H H') : Law4 C H' st dx wl pl rl A O kvs least :=
  ⟨L.S.keep f (by simp), L.G, L.R.mono f, L.D, L.sz, L.nn⟩
theorem flat_len {O : List Ob} (h : ∀ o ∈ O, o.sl.length ≤ 39) : (flat O).length ≤ 42 * O.length := by
  induction O with
  | nil => exact Nat.zero_le _
  | cons o r ih =>
    have := ih fun x hx => h x (List.mem_cons_of_mem _ hx)
    have := h o List.mem_cons_self
    rw [flat_cons, List.length_append, fl_len, List.length_cons]
    omega
theorem Good.kl {O : List Ob} {kvs : List (Key × V)} {least : Int} (G : Good O kvs least) : kvs.length ≤ O.length := by
  obtain ⟨ns, h1, h2⟩ := G.ints
  have e := congrArg List.length h1
  rw [List.length_map, List.length_map, h2.length_eq, List.length_map] at e
  have := List.length_filter_le (fun o : Ob => o.live) O
  omega
theorem pick {A : List (Addr × Addr)} {O : List Ob} (y : Int) (h : Zl A O ≠ []) : ∃ (z : (Addr × Addr) × Ob) (i : Nat), atI ((Zl A O).map fun z => V.ref z.1.1) (y % ((Zl A O).length : Int)) = some (V.ref z.1.1) ∧ A[i]? = some z.1 ∧ O[i]? = some z.2 ∧ z.2.live = true := by
  have hp : 0 < (Zl A O).length := List.length_pos_iff.mpr h
  have e1 := Int.emod_nonneg y (by omega : ((Zl A O).length : Int) ≠ 0)
  have e2 := Int.emod_lt_of_pos y (by omega : (0 : Int) < ((Zl A O).length : Int))
  generalize y % ((Zl A O).length : Int) = d at e1 e2
  have hi : d.toNat < (Zl A O).length := by omega
  obtain ⟨i, q1, q2, q3⟩ := Zl_get (List.getElem_mem hi)
  refine ⟨(Zl A O)[d.toNat], i, ?_, q1, q2, q3⟩
  have e : ((d.toNat : Nat) : Int) = d := by omega
  have z := atI_nat (xs := (Zl A O).map fun z => V.ref z.1.1) (j := d.toNat) (by rw [List.getElem?_map, List.getElem?_eq_getElem hi]; rfl)
  rw [e] at z
  exact z
theorem Law4.kill {C : Addr} {H H' : Hp} {st dx wl pl rl : Addr} {A : List (Addr × Addr)} {O : List Ob} {kvs : List (Key × V)} {least : Int} (L : Law4 C H st dx wl pl rl A O kvs least) {i : Nat} {a : Addr × Addr} {o : Ob} (ha : A[i]? = some a) (ho : O[i]? = some o) (hl : o.live = true)
    (S' : StoreAt H' C st dx wl pl 100000 100000 (if o.num < least then o.num else least) (flat O) (dropK kvs (.inl o.num))) (h1 : H' a.1 = some (.lst [.int o.num, .int o.kind, .ref a.2, .bl false])) (f : Fr (a.1 :: [st, wl, pl]) H H') :
    Law4 C H' st dx wl pl rl A (O.set i { o with live := false }) (dropK kvs (.inl o.num)) (if o.num < least then o.num else least) := by
  have mo := List.mem_of_getElem? ho
  refine ⟨by rw [flat_kill ho]; exact S', L.G.kill ho hl (L.nn o mo), L.R.setItem L.D ha ho rfl h1 f, L.D, fun x hx => ?_, fun x hx => ?_⟩
  · rcases List.mem_or_eq_of_mem_set hx with hx | rfl
    · exact L.sz x hx
    · exact L.sz o mo
  · rcases List.mem_or_eq_of_mem_set hx with hx | rfl
    · exact L.nn x hx
    · exact L.nn o mo
theorem Law4.swap {C : Addr} {H H4 : Hp} {st dx wl pl rl : Addr} {A : List (Addr × Addr)} {O : List Ob} {kvs : List (Key × V)} {least : Int} (L : Law4 C H st dx wl pl rl A O kvs least) {i j : Nat} {a b : Addr × Addr} {o p : Ob} (ha : A[i]? = some a) (ho : O[i]? = some o) (hb : A[j]? = some b) (hp : O[j]? = some p) (hl : o.live = true) (hl2 : p.live = true)
    (S' : StoreAt H4 C st dx wl pl 100000 100000 least (((flat O).set (off O i) p.num).set (off O j) o.num) (putK (putK kvs (.inl o.num) (.int (off O j : Nat))) (.inl p.num) (.int (off O i : Nat))))
    (R4 : RowAt H4 rl A (swapO O i j o p)) :
    Law4 C H4 st dx wl pl rl A (swapO O i j o p) (putK (putK kvs (.inl o.num) (.int (off O j : Nat))) (.inl p.num) (.int (off O i : Nat))) least := by
  have mo := List.mem_of_getElem? ho
  have mp := List.mem_of_getElem? hp
  have mm : ∀ x ∈ swapO O i j o p, x ∈ O ∨ x = { o with num := p.num } ∨ x = { p with num := o.num } := fun x hx => by
    rcases List.mem_or_eq_of_mem_set hx with hx | rfl
    · rcases List.mem_or_eq_of_mem_set hx with hx | rfl
      · exact Or.inl hx
      · exact Or.inr (Or.inl rfl)
    · exact Or.inr (Or.inr rfl)
  refine ⟨by rw [← swap_flat ho hp]; exact S', L.G.swap ho hp hl hl2, R4, L.D, fun x hx => ?_, fun x hx => ?_⟩
  · rcases mm x hx with hx | rfl | rfl
    · exact L.sz x hx
    · exact L.sz o mo
    · exact L.sz p mp
  · rcases mm x hx with hx | rfl | rfl
    · exact L.nn x hx
    · exact L.nn p mp
    · exact L.nn o mo
theorem get_snoc {α : Type} {l : List α} {x y : α} {k : Nat} (h : (l ++ [x])[k]? = some y) : l[k]? = some y ∨ k = l.length ∧ y = x := by
  by_cases hk : k < l.length
  · rw [List.getElem?_append_left hk] at h; exact Or.inl h
  · rw [List.getElem?_append_right (by omega)] at h
    have hlt := (List.getElem?_eq_some_iff.mp h).1
    have : k - l.length = 0 := by simpa using hlt
    rw [this] at h
    exact Or.inr ⟨by omega, by cases h; rfl⟩
theorem Law4.add {C : Addr} {H H' : Hp} {st dx wl pl rl : Addr} {A : List (Addr × Addr)} {O : List Ob} {kvs : List (Key × V)} {least : Int} (L : Law4 C H st dx wl pl rl A O kvs least) {a : Addr × Addr} {m x : Int} {z : Nat} (hz : z ≤ 39) (hn : valV kvs (.inl m) = none) (hs : Seen kvs m)
    (S' : StoreAt H' C st dx wl pl 100000 100000 m (flat O ++ (m :: (z : Int) :: x :: List.replicate z 0)) (putK kvs (.inl m) (.int ((flat O).length : Int)))) (h1 : H' a.1 = some (.lst [.int m, .int x, .ref a.2, .bl true])) (h2 : H' a.2 = some (.lst ((List.replicate z (0 : Int)).map V.int)))
    (hr : H' rl = some (.lst ((A ++ [a]).map fun a => V.ref a.1))) (f : Fr [st, wl, pl, rl] H H') (n1 : H a.1 = none) (n2 : H a.2 = none) (n12 : a.1 ≠ a.2) :
    Law4 C H' st dx wl pl rl (A ++ [a]) (O ++ [⟨m, x, List.replicate z 0, true⟩]) (putK kvs (.inl m) (.int ((flat O).length : Int))) m := by
  have there : ∀ b ∈ A, b.1 ≠ a.1 ∧ b.1 ≠ a.2 ∧ b.2 ≠ a.1 ∧ b.2 ≠ a.2 := fun b hb => by
    obtain ⟨i, hi⟩ := List.getElem?_of_mem hb
    have hl : i < O.length := by rw [← L.R.len]; exact (List.getElem?_eq_some_iff.mp hi).1
    obtain ⟨q1, q2⟩ := L.R.it i b _ hi (List.getElem?_eq_getElem hl)
    exact ⟨ne_of_none q1 n1, ne_of_none q1 n2, ne_of_none q2 n1, ne_of_none q2 n2⟩
  refine ⟨?_, L.G.add (o := ⟨m, x, List.replicate z 0, true⟩) rfl hn hs, ⟨hr, by rw [List.length_append, List.length_append, L.R.len]; rfl, fun i b o hb ho => ?_⟩, ⟨fun i j b c hb hc h => ?_, fun b c hb hc => ?_, fun b hb => ?_, L.D.d4, fun b hb => ?_⟩, fun o ho => ?_, fun o ho => ?_⟩
  · rw [flat_app]
    show StoreAt H' C st dx wl pl 100000 100000 m (flat O ++ (fl _ ++ [])) _
    rw [List.append_nil]
    unfold fl
    rw [List.length_replicate]
    exact S'
  · rcases get_snoc hb with hb | ⟨e, rfl⟩
    · have hl : i < O.length := by rw [← L.R.len]; exact (List.getElem?_eq_some_iff.mp hb).1
      rw [List.getElem?_append_left hl] at ho
      obtain ⟨q1, q2⟩ := L.R.it i b o hb ho
      have mb := List.mem_of_getElem? hb
      have d3 := L.D.d3 b mb
      have d5 := L.D.d5 b mb
      have g1 : b.1 ∉ [st, wl, pl, rl] := fun z => by
        rcases List.mem_append.mp (show b.1 ∈ [st, wl, pl] ++ [rl] from z) with z | z
        · exact d5.1 z
        · exact d3.1 (by simpa using z)
      have g2 : b.2 ∉ [st, wl, pl, rl] := fun z => by
        rcases List.mem_append.mp (show b.2 ∈ [st, wl, pl] ++ [rl] from z) with z | z
        · exact d5.2 z
        · exact d3.2 (by simpa using z)
      exact ⟨f _ _ q1 g1, f _ _ q2 g2⟩
    · rcases get_snoc ho with ho | ⟨e2, rfl⟩
      · have := (List.getElem?_eq_some_iff.mp ho).1
        rw [L.R.len] at e
        omega
      · exact ⟨h1, h2⟩
  · rcases get_snoc hb with hb' | ⟨e, e'⟩ <;> rcases get_snoc hc with hc' | ⟨e2, e2'⟩
    · exact L.D.d1 i j b c hb' hc' h
    · have t := there b (List.mem_of_getElem? hb')
      rw [e2'] at h
      rcases h with h | h
      · exact absurd h t.1
      · exact absurd h t.2.2.2
    · have t := there c (List.mem_of_getElem? hc')
      rw [e'] at h
      rcases h with h | h
      · exact absurd h.symm t.1
      · exact absurd h.symm t.2.2.2
    · omega
  · rcases List.mem_append.mp hb with hb' | hb' <;> rcases List.mem_append.mp hc with hc' | hc'
    · exact L.D.d2 b c hb' hc'
    · have e : c = a := by simpa using hc'
      rw [e]
      exact (there b hb').2.1
    · have e : b = a := by simpa using hb'
      rw [e]
      exact ((there c hc').2.2.1).symm
    · have e1 : b = a := by simpa using hb'
      have e2 : c = a := by simpa using hc'
      rw [e1, e2]
      exact n12
  · rcases List.mem_append.mp hb with hb | hb
    · exact L.D.d3 b hb
    · have e1 : b = a := by simpa using hb
      rw [e1]
      exact ⟨(ne_of_none L.R.rl n1).symm, (ne_of_none L.R.rl n2).symm⟩
  · rcases List.mem_append.mp hb with hb | hb
    · exact L.D.d5 b hb
    · have e1 : b = a := by simpa using hb
      rw [e1]
      have c1 : ∀ c, H c = none → c ∉ [st, wl, pl] := fun c hc hm => by
        have := L.S
        simp only [List.mem_cons, List.not_mem_nil, or_false] at hm
        rcases hm with rfl | rfl | rfl
        · rw [this.st] at hc; cases hc
        · rw [this.wl] at hc; cases hc
        · rw [this.pl] at hc; cases hc
      exact ⟨c1 _ n1, c1 _ n2⟩
  · rcases List.mem_append.mp ho with ho | ho
    · exact L.sz o ho
    · have e : o = ⟨m, x, List.replicate z 0, true⟩ := by simpa using ho
      rw [e]
      show (List.replicate z (0 : Int)).length ≤ 39
      rw [List.length_replicate]; exact hz
  · rcases List.mem_append.mp ho with ho | ho
    · exact L.nn o ho
    · have e : o = ⟨m, x, List.replicate z 0, true⟩ := by simpa using ho
      rw [e]
      exact hs.1

end LX
namespace LX
open PySem PySem.Spec PyProof.Rows L2 NdefX
section
variable {P : Program} {w : World} {K : PySem.W.Frag} {mg : Str → Option Value} {base : Heap}
theorem iteE {l : List V} {A B : Prop} (h1 : l ≠ [] → A) (h2 : B) : if (!l.isEmpty) = true then A else B := by
  cases l with
  | nil => exact iteF h2
  | cons a r => exact iteT (h1 (by simp))
theorem get_app {α : Type} {l : List α} {x : α} {i : Nat} {y : α} (h : l[i]? = some y) : (l ++ [x])[i]? = some y := by
  rw [List.getElem?_append_left (List.getElem?_eq_some_iff.mp h).1]; exact h
theorem not_emp {α β : Type} {l : List α} {f : α → β} {b : Bool} (h : b = !(l.map f).isEmpty) (hb : b = true) : l ≠ [] := fun e => by subst e; rw [hb] at h; simp at h
def sp_grown : Addr → Sp := fun C vs H Q _ => ∃ st dx wl pl rl A O kvs least x, vs = [.ref st, .ref rl, .int x] ∧ Law4 C H st dx wl pl rl A O kvs least ∧ O.length < 80 ∧
  ∀ A' O' kvs' least' H', Law4 C H' st dx wl pl rl A' O' kvs' least' → O'.length = O.length + 1 → (∀ a, a ∈ A' → a ∈ A ∨ (H a.1 = none ∧ H a.2 = none)) → Fr (st :: wl :: pl :: rl :: ad A) H H' → Q .non H'
theorem ok__law_grown (W : WT P K mg base) : FnOk P w K mg base CX0 3 W.f__law_grown W.fd__law_grown ["_law_store", "_law_row", "_law_x"] (sp_grown W.c_Store) := by
  refine W.F__law_grown.ok sc__law_grown (fun vs H Q E h => ?_) (fun cdv A outer s H vs Q E hr h => ?_)
  · obtain ⟨st, dx, wl, pl, rl, A, O, kvs, least, x, rfl, _⟩ := h
    rfl
  · obtain ⟨st, dx, wl, pl, rl, A, O, kvs, least, x, rfl, L, hO, k⟩ := h
    have hu1 := hu_of hr
    have hu64 := hu64_of hr
    refine ⟨_, (pss_cons (ps_set (i := 3) sc__law_grown.nd rfl (by first | exact Or.inl rfl | exact Or.inr rfl) (pe_call (ok__law_living W) (hr.mono (by decide)) rfl W.g__law_living W.F__law_living.kp W.b__law_living .nil pass0 (pa_cons (pv 1) pa_nil)))
      (Evl.pss_cut (ps_if (PW.pt (pw_and (pt_cmpR (op_eqU hu64) (pe_op op_mod (pe_callTy call_intU (by rfl) W.n_int bb_int (pa_cons (pv 2) pa_nil)) pe_int) pe_int (by first | exact nomark _ | rfl)) (pw_and1 (pt_truth (pv 3) (by intro _; rfl))))) (pss_cons (ps_set (i := 4) sc__law_grown.nd rfl (by first | exact Or.inl rfl | exact Or.inr rfl) (pe_ix (ix_U hu1) (pv 3) (pe_op op_mod (pe_op op_fdivW (pv 2) pe_int) (pe_callB call_lenU (by rfl) W.n_len bb_len (pa_cons (pv 3) pa_nil))) (fun _ _ => rfl)))
      (pss_cons (ps_asg pe_bl (pg_sub (pv 4) pe_int set_list))
      (pss_one (ps_expr (pe_meth (pv 0) W.C_Store W.m_Store_drop (ok_Store_drop W) (hr.mono (by decide)) W.b_Store_drop .nil pass0 (pa_cons (pe_ix (ix_U hu1) (pv 4) pe_int (fun _ _ => rfl)) pa_nil)))))) (pss_one (ps_if (PW.pt (pw_and (pt_cmpR (op_eqU hu64) (pe_op op_mod (pe_callTy call_intU (by rfl) W.n_int bb_int (pa_cons (pv 2) pa_nil)) pe_int) pe_int (by first | exact nomark _ | rfl)) (pw_and1 (pt_truth (pv 3) (by intro _; rfl))))) (pss_cons (ps_set (i := 5) sc__law_grown.nd rfl (by first | exact Or.inl rfl | exact Or.inr rfl) (pe_ix (ix_U hu1) (pv 3) (pe_op op_mod (pe_op op_fdivW (pv 2) pe_int) (pe_callB call_lenU (by rfl) W.n_len bb_len (pa_cons (pv 3) pa_nil))) (fun _ _ => rfl)))
      (pss_cons (ps_set (i := 6) sc__law_grown.nd rfl (by first | exact Or.inl rfl | exact Or.inr rfl) (pe_ix (ix_U hu1) (pv 3) (pe_op op_mod (pe_op op_fdivW (pv 2) pe_int) (pe_callB call_lenU (by rfl) W.n_len bb_len (pa_cons (pv 3) pa_nil))) (fun _ _ => rfl)))
      (pss_cons (ps_expr (pe_meth (pv 0) W.C_Store W.m_Store_exchange (ok_Store_exchange W) (hr.mono (by decide)) W.b_Store_exchange .nil pass0 (pa_cons (pe_ix (ix_U hu1) (pv 5) pe_int (fun _ _ => rfl)) (pa_cons (pe_ix (ix_U hu1) (pv 6) pe_int (fun _ _ => rfl)) pa_nil))))
      (pss_cons (ps_set (i := 7) sc__law_grown.nd rfl (by first | exact Or.inl rfl | exact Or.inr rfl) (pe_ix (ix_U hu1) (pv 5) pe_int (fun _ _ => rfl)))
      (pss_cons (ps_asg (pe_ix (ix_U hu1) (pv 6) pe_int (fun _ _ => rfl)) (pg_sub (pv 5) pe_int set_list))
      (pss_one (ps_asg (pv 7) (pg_sub (pv 6) pe_int set_list)))))))) pss_nil)))
      (pss_cons (ps_set (i := 8) sc__law_grown.nd rfl (by first | exact Or.inl rfl | exact Or.inr rfl) (pe_op op_mod (pe_op op_fdivW (pv 2) pe_int) pe_int))
      (Evl.pss_cut (ps_if (pt_cmpR (op_eqU hu64) (pe_op op_mod (pe_op op_fdivW (pv 2) pe_int) pe_int) pe_int (by first | exact nomark _ | rfl)) (pss_one (ps_set (i := 8) sc__law_grown.nd rfl (by first | exact Or.inl rfl | exact Or.inr rfl) (pe_op op_mod (pe_op op_fdivW (pv 2) pe_int) pe_int))) pss_nil)
      (pss_one (ps_expr (pe_bm PySem.F.plainAttrs_list PySem.F.slot_list_append PySem.F.type_list_append mt_append (pv 1) (pa_cons (pe_lst (pa_cons (pe_meth (pv 0) W.C_Store W.m_Store_allocate (ok_Store_allocate W) (hr.mono (by decide)) W.b_Store_allocate .nil pass0 (pa_cons pe_int (pa_cons (pv 8) pa_nil))) (pa_cons pe_int (pa_cons (pe_op op_mulU (pe_lst (pa_cons pe_int pa_nil)) (pv 8)) (pa_cons pe_bl pa_nil))))) pa_nil)))))))), ?_⟩
    refine ⟨_, rfl, rl, A, O, rfl, L.R, by omega, fun q hq => ?_⟩
    have L1 := L.keep (Fr.new (o := .lst ((Zl A O).map fun z => V.ref z.1.1)) hq)
    have f1 : Fr (st :: wl :: pl :: rl :: ad A) H (upd H q (.lst ((Zl A O).map fun z => V.ref z.1.1))) := Fr.new hq
    have hZ : upd H q (.lst ((Zl A O).map fun z => V.ref z.1.1)) q = some (.lst ((Zl A O).map fun z => V.ref z.1.1)) := upd_same
    generalize upd H q (.lst ((Zl A O).map fun z => V.ref z.1.1)) = H1 at L1 hZ f1
    have sX : ∀ b, b ∈ [st, wl, pl] → b ∈ st :: wl :: pl :: rl :: ad A := fun b hb => by
      simp only [List.mem_cons, List.not_mem_nil, or_false] at hb
      rcases hb with h | h | h <;> simp [h]
    have sA : ∀ a ∈ A, a.1 ∈ st :: wl :: pl :: rl :: ad A := fun a ha => by simp [(ad_mem ha).1]
    refine ⟨fun σ H' => ∃ v4 v5 v6 v7, ∃ O' kvs' least', σ = [some (.ref st), some (.ref rl), some (.int x), some (.ref q), v4, v5, v6, v7, none] ∧ Law4 W.c_Store H' st dx wl pl rl A O' kvs' least' ∧ O'.length = O.length ∧ Fr (st :: wl :: pl :: rl :: ad A) H H', ?_, ?_⟩
    · -- x % 5 == 0 and living
      have idx : ∀ (y : Int) (R : V → Hp → Prop), Zl A O ≠ [] → (∀ (z : (Addr × Addr) × Ob) (i : Nat), A[i]? = some z.1 → O[i]? = some z.2 → z.2.live = true → R (.ref z.1.1) H1) → rIxU K (.ref q) (.int (y % ((Zl A O).length : Int))) H1 R := fun y R hne hh => by
        obtain ⟨z, i, q1, q2, q3, q4⟩ := pick (A := A) (O := O) y hne
        exact Or.inl ⟨_, _, _, rfl, Or.inl (SqL.of hZ), q1, hh z i q2 q3 q4⟩
      have done : ∀ (v4 v5 v6 v7 : Option V), ∃ v4' v5' v6' v7', ∃ O' kvs' least', [some (V.ref st), some (.ref rl), some (.int x), some (.ref q), v4, v5, v6, v7, none] = [some (V.ref st), some (.ref rl), some (.int x), some (.ref q), v4', v5', v6', v7', none] ∧ Law4 W.c_Store H1 st dx wl pl rl A O' kvs' least' ∧ O'.length = O.length ∧ Fr (st :: wl :: pl :: rl :: ad A) H H1 := fun v4 v5 v6 v7 => ⟨v4, v5, v6, v7, O, kvs, least, rfl, L1, rfl, f1⟩
      have ne0 : (Zl A O).map (fun z => V.ref z.1.1) ≠ [] → Zl A O ≠ [] := fun h e => h (by rw [e]; rfl)
      have pos : (Zl A O) ≠ [] → (0 : Int) < (((Zl A O).map fun z => V.ref z.1.1).length : Int) := fun h => by
        have := List.length_pos_iff.mpr h
        rw [List.length_map]
        omega
      refine ⟨_, rfl, _, _, rfl, rfl, (by show (0 : Int) < 5; decide), ?_⟩
      refine ⟨rfl, _, rfl, ?_⟩
      refine (have el : _ := ?_; iteD (fun h0 => ?_) (fun _ => el))
      · -- elif
        refine ⟨_, rfl, _, _, rfl, rfl, (by show (0 : Int) < 5; decide), rfl, _, rfl, ?_⟩
        refine iteD (fun h0 => ?_) (fun _ => done _ _ _ _)
        refine ⟨_, rfl, _, Or.inl ⟨_, SqL.of hZ, rfl⟩, ?_⟩
        refine iteE (fun hne => ?_) (done _ _ _ _)
        have hne := ne0 hne
        refine ⟨_, rfl, _, rfl, _, _, rfl, rfl, ⟨by decide, by decide⟩, _, rfl, Or.inl ⟨_, Or.inl (SqL.of hZ), _, _, rfl, rfl, pos hne, ?_⟩⟩
        rw [List.length_map]
        refine idx _ _ hne fun z i ha ho hl => ?_
        refine ⟨_, rfl, _, rfl, _, _, rfl, rfl, ⟨by decide, by decide⟩, _, rfl, Or.inl ⟨_, Or.inl (SqL.of hZ), _, _, rfl, rfl, pos hne, ?_⟩⟩
        rw [List.length_map]
        refine idx _ _ hne fun y j hb hp hl2 => ?_
        obtain ⟨a, o⟩ := z
        obtain ⟨b, p⟩ := y
        obtain ⟨q1, q2⟩ := L1.R.it i a o ha ho
        obtain ⟨r1, r2⟩ := L1.R.it j b p hb hp
        have ma := List.mem_of_getElem? ha
        have mb := List.mem_of_getElem? hb
        refine ⟨_, rfl, st, dx, _, rfl, L1.S.st, rfl, ?_⟩
        refine ⟨_, rfl, Or.inl ⟨_, _, _, rfl, Or.inl (SqL.of q1), rfl, ?_⟩⟩
        refine ⟨_, rfl, Or.inl ⟨_, _, _, rfl, Or.inl (SqL.of r1), rfl, ?_⟩⟩
        have kl := L1.G.kl
        refine ⟨st, dx, wl, pl, _, _, least, _, kvs, o.num, p.num, off O i, off O j, rfl, L1.S, L1.G.at ho hl, L1.G.at hp hl2, by have := off_lt ho; omega, by have := off_lt hp; omega, by rw [sizeLine_eq]; omega, fun H2 S2 k2 => ?_⟩
        have f2 : Fr [wl, pl] H1 H2 := Fr.of k2 (by simp) (by simp)
        have d5a := L1.D.d5 a ma
        have d5b := L1.D.d5 b mb
        have q1' : H2 a.1 = _ := f2 _ _ q1 (by have := d5a.1; simp at this ⊢; exact this.2)
        have r1' : H2 b.1 = _ := f2 _ _ r1 (by have := d5b.1; simp at this ⊢; exact this.2)
        refine ⟨_, rfl, Or.inl ⟨_, _, _, rfl, Or.inl (SqL.of q1'), rfl, ?_⟩⟩
        refine ⟨_, rfl, Or.inl ⟨_, _, _, rfl, Or.inl (SqL.of r1'), rfl, ?_⟩⟩
        refine ⟨_, rfl, a.1, _, _, 0, rfl, rfl, q1', rfl, ?_⟩
        have f3 : Fr (a.1 :: [st, wl, pl]) H1 (upd H2 a.1 (.lst [V.int p.num, .int o.kind, .ref a.2, .bl o.live])) := (f2.mono (by simp)).trans (Fr.at (by simp))
        have R3 := L1.R.setItem L1.D (o' := { o with num := p.num }) ha ho rfl upd_same f3
        have e3 : L2.upd H2 a.1 (.lst ([V.int o.num, .int o.kind, .ref a.2, .bl o.live].set 0 (.int p.num))) = upd H2 a.1 (.lst [V.int p.num, .int o.kind, .ref a.2, .bl o.live]) := rfl
        rw [e3]
        generalize e4 : upd H2 a.1 (.lst [V.int p.num, .int o.kind, .ref a.2, .bl o.live]) = H3 at f3 R3
        have hj : (O.set i { o with num := p.num })[j]? = some (if j = i then { o with num := p.num } else p) := by
          rw [set_get ho]
          split
          · rfl
          · exact hp
        obtain ⟨t1, t2⟩ := R3.it j b _ hb hj
        refine ⟨_, rfl, _, rfl, b.1, _, _, 0, rfl, rfl, t1, rfl, ?_⟩
        have hx : ∀ c : Ob, c = (if j = i then { o with num := p.num } else p) → [V.int c.num, .int c.kind, .ref b.2, .bl c.live].set 0 (.int o.num) = [V.int o.num, .int p.kind, .ref b.2, .bl p.live] := fun c hc => by
          subst hc
          by_cases e : j = i
          · subst e; rw [ho] at hp; cases hp; rw [if_pos rfl]; rfl
          · rw [if_neg e]; rfl
        rw [hx _ rfl]
        have f4 : Fr (b.1 :: [st, wl, pl]) H3 (upd H3 b.1 (.lst [V.int o.num, .int p.kind, .ref b.2, .bl p.live])) := Fr.at (by simp)
        have R4 := R3.setItem L1.D (o' := { p with num := o.num }) hb hj (by
          by_cases e : j = i
          · subst e; rw [ho] at hp; cases hp; rw [if_pos rfl]
          · rw [if_neg e]) upd_same f4
        have f5 : Fr [a.1, b.1] H2 (upd H3 b.1 (.lst [V.int o.num, .int p.kind, .ref b.2, .bl p.live])) := by
          refine Fr.trans (H1 := H3) ?_ (Fr.at (by simp))
          rw [← e4]
          exact Fr.at (by simp)
        have S5 := S2.keep f5 (fun c hc => by
          intro h
          simp only [List.mem_cons, List.not_mem_nil, or_false] at h
          rcases h with h | h
          · rw [h] at hc; exact d5a.1 hc
          · rw [h] at hc; exact d5b.1 hc)
        refine ⟨_, _, _, _, swapO O i j o p, _, least, rfl, L1.swap ha ho hb hp hl hl2 S5 R4, by unfold swapO; rw [List.length_set, List.length_set], ?_⟩
        refine f1.trans ((f2.mono fun c hc => ?_).trans (f5.mono fun c hc => ?_))
        · exact sX c (by rcases List.mem_cons.mp hc with h | h; (rw [h]; simp); (have : c = pl := by simpa using h); rw [this]; simp)
        · simp only [List.mem_cons, List.not_mem_nil, or_false] at hc
          rcases hc with h | h
          · rw [h]; exact sA a ma
          · rw [h]; exact sA b mb
      · refine ⟨_, rfl, _, Or.inl ⟨_, SqL.of hZ, rfl⟩, ?_⟩
        refine iteE (fun hne => ?_) el
        have hne := ne0 hne
        refine ⟨_, rfl, _, rfl, _, _, rfl, rfl, ⟨by decide, by decide⟩, _, rfl, Or.inl ⟨_, Or.inl (SqL.of hZ), _, _, rfl, rfl, pos hne, ?_⟩⟩
        rw [List.length_map]
        refine idx _ _ hne fun z i ha ho hl => ?_
        obtain ⟨a, o⟩ := z
        obtain ⟨q1, q2⟩ := L1.R.it i a o ha ho
        have ma := List.mem_of_getElem? ha
        refine ⟨_, rfl, a.1, _, _, 3, rfl, rfl, q1, rfl, ?_⟩
        have e3 : L2.upd H1 a.1 (.lst ([V.int o.num, .int o.kind, .ref a.2, .bl o.live].set 3 (.bl false))) = upd H1 a.1 (.lst [V.int o.num, .int o.kind, .ref a.2, .bl false]) := rfl
        rw [e3]
        have f2 : Fr [a.1] H1 (upd H1 a.1 (.lst [V.int o.num, .int o.kind, .ref a.2, .bl false])) := Fr.at (by simp)
        have d5a := L1.D.d5 a ma
        have S2 := L1.S.keep f2 (fun c hc h => by
          have h : c = a.1 := by simpa using h
          rw [h] at hc; exact d5a.1 hc)
        have q3 : upd H1 a.1 (.lst [V.int o.num, .int o.kind, .ref a.2, .bl false]) a.1 = some (.lst [V.int o.num, .int o.kind, .ref a.2, .bl false]) := upd_same
        generalize upd H1 a.1 (.lst [V.int o.num, .int o.kind, .ref a.2, .bl false]) = H2 at f2 S2 q3
        refine ⟨_, rfl, st, dx, _, rfl, S2.st, rfl, ?_⟩
        refine ⟨_, rfl, Or.inl ⟨_, _, _, rfl, Or.inl (SqL.of q3), rfl, ?_⟩⟩
        refine ⟨st, dx, wl, pl, _, _, least, _, kvs, o.num, rfl, S2, by rw [L1.G.at ho hl]; rfl, fun H3 S3 k3 => ?_⟩
        have f3 : Fr [st, pl] H2 H3 := Fr.of k3 (by simp) (by simp)
        have q3' := f3 _ _ q3 (by have := d5a.1; simp at this ⊢; exact ⟨this.1, this.2.2⟩)
        have f4 : Fr (a.1 :: [st, wl, pl]) H1 H3 := (f2.mono (by simp)).trans (f3.mono (by simp))
        refine ⟨_, _, _, _, O.set i { o with live := false }, _, _, rfl, L1.kill ha ho hl S3 q3' f4, by rw [List.length_set], ?_⟩
        refine f1.trans (f4.mono fun c hc => ?_)
        rcases List.mem_cons.mp hc with h | h
        · rw [h]; exact sA a ma
        · exact sX c h
    · rintro σ H2 ⟨v4, v5, v6, v7, O2, kvs2, least2, rfl, L2, hl2, f2⟩
      refine ⟨_, rfl, _, _, rfl, rfl, ⟨by decide, by decide⟩, _, _, rfl, rfl, (by show (0 : Int) < 4; decide), ?_⟩
      refine ⟨fun σ H' => ∃ z : Nat, σ = [some (.ref st), some (.ref rl), some (.int x), some (.ref q), v4, v5, v6, v7, some (.int (z : Int))] ∧ z ≤ 39 ∧ H' = H2, ?_, ?_⟩
      · refine ⟨_, rfl, _, _, rfl, rfl, ⟨by decide, by decide⟩, _, _, rfl, rfl, (by show (0 : Int) < 16; decide), rfl, _, rfl, ?_⟩
        refine iteD (fun _ => ?_) (fun _ => ?_)
        · refine ⟨_, rfl, _, _, rfl, rfl, ⟨by decide, by decide⟩, _, _, rfl, rfl, (by show (0 : Int) < 40; decide), ?_⟩
          have e1 := Int.emod_nonneg (x / 81920) (by decide : (40 : Int) ≠ 0)
          have e2 := Int.emod_lt_of_pos (x / 81920) (by decide : (0 : Int) < 40)
          exact ⟨(x / 81920 % 40).toNat, by rw [show ((x / 81920 % 40).toNat : Int) = x / 81920 % 40 by omega]; rfl, by omega, rfl⟩
        · have e1 := Int.emod_nonneg (x / 1280) (by decide : (4 : Int) ≠ 0)
          have e2 := Int.emod_lt_of_pos (x / 1280) (by decide : (0 : Int) < 4)
          exact ⟨(x / 1280 % 4).toNat, by rw [show ((x / 1280 % 4).toNat : Int) = x / 1280 % 4 by omega]; rfl, by omega, rfl⟩
      · rintro σ H3 ⟨z, rfl, hz, rfl⟩
        have fl2 := flat_len L2.sz
        have kl2 := L2.G.kl
        refine ⟨_, rfl, Or.inl ⟨rfl, _, SqL.of L2.R.rl⟩, ?_⟩
        refine ⟨_, rfl, st, dx, _, rfl, L2.S.st, rfl, ?_⟩
        refine ⟨_, rfl, ?_⟩
        refine ⟨st, dx, wl, pl, _, _, least2, _, kvs2, 0, z, rfl, L2.S, L2.G.seen, by omega, by omega, by omega, by omega, fun m H4 S4 f4 hs hm => ?_⟩
        refine ⟨(by show 1 ≤ sizeLine; decide), fun q1 hq1 => ?_⟩
        refine ⟨_, rfl, ?_⟩
        refine ⟨q1, (z : Int), _, rfl, rfl, upd_same, by omega, by omega, (by show 1 * ((z : Int)).toNat ≤ _; rw [sizeLine_eq]; omega), fun q2 hq2 => ?_⟩
        rw [Int.toNat_natCast, rep_int]
        refine ⟨(by show 4 ≤ sizeLine; decide), fun q3 hq3 => ?_⟩
        have f5 : Fr [st, wl, pl] H3 (upd H4 q1 (.lst [V.int 0])) := f4.trans (Fr.new hq1)
        have f6 : Fr [st, wl, pl] H3 (upd (upd H4 q1 (.lst [V.int 0])) q2 (.lst ((List.replicate z (0 : Int)).map V.int))) := f5.trans (Fr.new hq2)
        have g6 : Fr [] H4 (upd (upd H4 q1 (.lst [V.int 0])) q2 (.lst ((List.replicate z (0 : Int)).map V.int))) := Fr.trans (Fr.new hq1) (Fr.new hq2)
        have q22 : upd (upd H4 q1 (.lst [V.int 0])) q2 (.lst ((List.replicate z (0 : Int)).map V.int)) q2 = some (.lst ((List.replicate z (0 : Int)).map V.int)) := upd_same
        have hq2' : H4 q2 = none := by
          by_cases e : q2 = q1
          · rw [e]; exact hq1
          · rw [upd_ne e] at hq2; exact hq2
        generalize upd (upd H4 q1 (.lst [V.int 0])) q2 (.lst ((List.replicate z (0 : Int)).map V.int)) = H6 at f6 q22 hq3 g6
        have n32 : q3 ≠ q2 := (ne_of_none q22 hq3).symm
        have hq3' : H4 q3 = none := by
          cases e : H4 q3 with
          | none => rfl
          | some o => rw [g6 _ _ e (by simp)] at hq3; cases hq3
        have back : ∀ c, H4 c = none → H3 c = none := fun c hc => by
          cases e : H3 c with
          | none => rfl
          | some o =>
            by_cases hm : c ∈ [st, wl, pl]
            · simp only [List.mem_cons, List.not_mem_nil, or_false] at hm
              rcases hm with h | h | h
              · rw [h, S4.st] at hc; cases hc
              · rw [h, S4.wl] at hc; cases hc
              · rw [h, S4.pl] at hc; cases hc
            · rw [f4 _ _ e hm] at hc; cases hc
        have f7 : Fr [st, wl, pl] H3 (upd H6 q3 (.lst [V.int m, .int 0, .ref q2, .bl true])) := f6.trans (Fr.new hq3)
        have S7 := (S4.keep g6 (by simp)).keep (Fr.new (F := []) (o := .lst [V.int m, .int 0, .ref q2, .bl true]) hq3) (by simp)
        have r7 := f7 _ _ L2.R.rl L2.D.d4
        have q37 : upd H6 q3 (.lst [V.int m, .int 0, .ref q2, .bl true]) q3 = some (.lst [V.int m, .int 0, .ref q2, .bl true]) := upd_same
        have q27 : upd H6 q3 (.lst [V.int m, .int 0, .ref q2, .bl true]) q2 = some (.lst ((List.replicate z (0 : Int)).map V.int)) := by rw [upd_ne n32.symm]; exact q22
        show rAppend _ _ (upd H6 q3 (.lst [V.int m, .int 0, .ref q2, .bl true])) _
        generalize upd H6 q3 (.lst [V.int m, .int 0, .ref q2, .bl true]) = H7 at f7 S7 r7 q37 q27
        refine ⟨rl, _, _, rfl, rfl, r7, by rw [List.length_map, L2.R.len, sizeLine_eq]; omega, ?_⟩
        have e8 : (A.map fun a => V.ref a.1) ++ [V.ref q3] = (A ++ [(q3, q2)]).map fun a => V.ref a.1 := by rw [List.map_append]; rfl
        rw [e8]
        have n3 : q3 ≠ rl := (ne_of_none L2.R.rl (back _ hq3')).symm
        have n2 : q2 ≠ rl := (ne_of_none L2.R.rl (back _ hq2')).symm
        have f8 : Fr [rl] H7 (upd H7 rl (.lst ((A ++ [(q3, q2)]).map fun a => V.ref a.1))) := Fr.at (by simp)
        have S8 := S7.keep f8 (fun b hb h => by
          have h : b = rl := by simpa using h
          rw [h] at hb; exact L2.D.d4 hb)
        have fin := L2.add (a := (q3, q2)) (H' := upd H7 rl (.lst ((A ++ [(q3, q2)]).map fun a => V.ref a.1))) hz hm hs S8 (f8 _ _ q37 (by simpa using n3)) (f8 _ _ q27 (by simpa using n2)) upd_same ((f7.mono fun b hb => by
          simp only [List.mem_cons, List.not_mem_nil, or_false] at hb ⊢
          rcases hb with h | h | h <;> simp [h]).trans (Fr.at (by simp))) (back _ hq3') (back _ hq2') n32
        refine k _ _ _ _ _ fin (by rw [List.length_append, hl2]; rfl) (fun a ha => ?_) (f2.trans ((f7.mono sX).trans (f8.mono fun b hb => by
          have h : b = rl := by simpa using hb
          rw [h]; simp)))
        rcases List.mem_append.mp ha with h | h
        · exact Or.inl h
        · have e : a = (q3, q2) := by simpa using h
          have bk : ∀ c, H3 c = none → H c = none := fun c hc => by
            cases e : H c with
            | none => rfl
            | some o =>
              by_cases hm : c ∈ st :: wl :: pl :: rl :: ad A
              · exfalso
                have hm : c = st ∨ c = wl ∨ c = pl ∨ c = rl ∨ c ∈ ad A := by simpa using hm
                rcases hm with h | h | h | h | h
                · rw [h, L2.S.st] at hc; cases hc
                · rw [h, L2.S.wl] at hc; cases hc
                · rw [h, L2.S.pl] at hc; cases hc
                · rw [h, L2.R.rl] at hc; cases hc
                · obtain ⟨b, hb, hb2⟩ := List.mem_flatMap.mp h
                  obtain ⟨i, hi⟩ := List.getElem?_of_mem hb
                  have hl : i < O2.length := by rw [← L2.R.len]; exact (List.getElem?_eq_some_iff.mp hi).1
                  obtain ⟨t1, t2⟩ := L2.R.it i b _ hi (List.getElem?_eq_getElem hl)
                  have hb2 : c = b.1 ∨ c = b.2 := by simpa using hb2
                  rcases hb2 with h | h
                  · rw [h, t1] at hc; cases hc
                  · rw [h, t2] at hc; cases hc
              · rw [f2 _ _ e hm] at hc; cases hc
          right
          rw [e]
          exact ⟨bk _ (back _ hq3'), bk _ (back _ hq2')⟩
end

end LX
namespace LX
open PySem PySem.Spec PyProof.Rows L2 NdefX
theorem Law4.kind {C : Addr} {H H' : Hp} {st dx wl pl rl : Addr} {A : List (Addr × Addr)} {O : List Ob} {kvs : List (Key × V)} {least : Int} (L : Law4 C H st dx wl pl rl A O kvs least) {i : Nat} {a : Addr × Addr} {o : Ob} {x : Int} (ha : A[i]? = some a) (ho : O[i]? = some o)
    (S' : StoreAt H' C st dx wl pl 100000 100000 least ((flat O).set (off O i + 2) x) kvs) (h1 : H' a.1 = some (.lst [.int o.num, .int x, .ref a.2, .bl o.live])) (f : Fr (a.1 :: [st, wl, pl]) H H') :
    Law4 C H' st dx wl pl rl A (O.set i { o with kind := x }) kvs least := by
  have mo := List.mem_of_getElem? ho
  refine ⟨by rw [← set_kind x ho]; exact S', L.G.same ho rfl rfl rfl, L.R.setItem L.D (o' := { o with kind := x }) ha ho rfl h1 f, L.D, fun y hy => ?_, fun y hy => ?_⟩
  · rcases List.mem_or_eq_of_mem_set hy with hy | rfl
    · exact L.sz y hy
    · exact L.sz o mo
  · rcases List.mem_or_eq_of_mem_set hy with hy | rfl
    · exact L.nn y hy
    · exact L.nn o mo
theorem Law4.slot {C : Addr} {H H' : Hp} {st dx wl pl rl : Addr} {A : List (Addr × Addr)} {O : List Ob} {kvs : List (Key × V)} {least : Int} (L : Law4 C H st dx wl pl rl A O kvs least) {i k : Nat} {a : Addr × Addr} {o : Ob} {x : Int} (ha : A[i]? = some a) (ho : O[i]? = some o) (hk : k < o.sl.length)
    (S' : StoreAt H' C st dx wl pl 100000 100000 least ((flat O).set (off O i + 3 + k) x) kvs) (h2 : H' a.2 = some (.lst ((o.sl.set k x).map V.int))) (f : Fr (a.2 :: [st, wl, pl]) H H') :
    Law4 C H' st dx wl pl rl A (O.set i { o with sl := o.sl.set k x }) kvs least := by
  have mo := List.mem_of_getElem? ho
  refine ⟨by rw [← set_slot x ho hk]; exact S', L.G.same ho rfl rfl (List.length_set), L.R.setSl L.D (o' := { o with sl := o.sl.set k x }) ha ho rfl rfl rfl h2 f, L.D, fun y hy => ?_, fun y hy => ?_⟩
  · rcases List.mem_or_eq_of_mem_set hy with hy | rfl
    · exact L.sz y hy
    · show (o.sl.set k x).length ≤ 39
      rw [List.length_set]; exact L.sz o mo
  · rcases List.mem_or_eq_of_mem_set hy with hy | rfl
    · exact L.nn y hy
    · exact L.nn o mo
/-- the same objects by place: number and life -/
def Same (O O' : List Ob) : Prop := O'.length = O.length ∧ ∀ (i : Nat) (o : Ob), O[i]? = some o → ∃ o', O'[i]? = some o' ∧ o'.num = o.num ∧ o'.live = o.live ∧ o'.sl.length = o.sl.length
theorem Same.rfl' {O : List Ob} : Same O O := ⟨rfl, fun _ o h => ⟨o, h, rfl, rfl, rfl⟩⟩
theorem Same.set {O O' : List Ob} (S : Same O O') {i : Nat} {o o' : Ob} (ho : O'[i]? = some o) (h1 : o'.num = o.num) (h2 : o'.live = o.live) (h3 : o'.sl.length = o.sl.length) : Same O (O'.set i o') := by
  refine ⟨by rw [List.length_set]; exact S.1, fun j x hx => ?_⟩
  obtain ⟨y, q1, q2, q3, q4⟩ := S.2 j x hx
  rw [set_get ho]
  by_cases e : j = i
  · subst e
    rw [ho] at q1; cases q1
    exact ⟨o', by rw [if_pos rfl], h1.trans q2, h2.trans q3, h3.trans q4⟩
  · exact ⟨y, by rw [if_neg e]; exact q1, q2, q3, q4⟩
section
variable {P : Program} {w : World} {K : PySem.W.Frag} {mg : Str → Option Value} {base : Heap}
def sp_linked : Addr → Sp := fun C vs H Q _ => ∃ st dx wl pl rl A O kvs least x, vs = [.ref st, .ref rl, .int x] ∧ Law4 C H st dx wl pl rl A O kvs least ∧ O.length ≤ 80 ∧
  ∀ O' H', Law4 C H' st dx wl pl rl A O' kvs least → O'.length = O.length → Fr (st :: wl :: pl :: rl :: ad A) H H' → Q .non H'
theorem ok__law_linked (W : WT P K mg base) : FnOk P w K mg base CX0 2 W.f__law_linked W.fd__law_linked ["_law_store", "_law_row", "_law_x"] (sp_linked W.c_Store) := by
  refine W.F__law_linked.ok sc__law_linked (fun vs H Q E h => ?_) (fun cdv Ar outer s H vs Q E hr h => ?_)
  · obtain ⟨st, dx, wl, pl, rl, A, O, kvs, least, x, rfl, _⟩ := h
    rfl
  · obtain ⟨st, dx, wl, pl, rl, A, O, kvs, least, x, rfl, L, hO, k⟩ := h
    have hu1 := hu_of hr
    have hu64 := hu64_of hr
    refine ⟨_, (pss_cons (ps_set (i := 3) sc__law_linked.nd rfl (by first | exact Or.inl rfl | exact Or.inr rfl) (pv 2))
      (pss_one (ps_for PassesOwn.never rfl (pi_range1 (by rfl) W.n_range (pa_cons (pe_callB call_lenU (by rfl) W.n_len bb_len (pa_cons (pv 1) pa_nil)) pa_nil)) (pg_name (i := 4) sc__law_linked.nd rfl (by first | exact Or.inl rfl | exact Or.inr rfl)) (pss_cons (ps_set (i := 5) sc__law_linked.nd rfl (by first | exact Or.inl rfl | exact Or.inr rfl) (pe_ix (ix_U hu1) (pv 1) (pv 4) (fun _ _ => rfl)))
      (pss_cons (ps_set (i := 6) sc__law_linked.nd rfl (by first | exact Or.inl rfl | exact Or.inr rfl) (pe_call (ok__law_number W) (hr.mono (by decide)) rfl W.g__law_number W.F__law_number.kp W.b__law_number .nil pass0 (pa_cons (pe_op op_addU (pv 3) (pv 4)) (pa_cons (pv 4) pa_nil))))
      (pss_cons (ps_set (i := 3) sc__law_linked.nd rfl (by first | exact Or.inl rfl | exact Or.inr rfl) (pe_op op_fdivW (pv 3) pe_int))
      (pss_one (ps_if (pt_truth (pe_ix (ix_U hu1) (pv 5) pe_int (fun _ _ => rfl)) (by intro _; rfl)) (pss_cons (ps_asg (pe_call (ok__law_word W) (hr.mono (by decide)) rfl W.g__law_word W.F__law_word.kp W.b__law_word .nil pass0 (pa_cons (pv 6) (pa_cons (pe_callB call_lenU (by rfl) W.n_len bb_len (pa_cons (pv 1) pa_nil)) pa_nil))) (pg_sub (pv 5) pe_int set_list))
      (pss_cons (ps_expr (pe_meth (pv 0) W.C_Store W.m_Store_set_kind (ok_Store_set_kind W) (hr.mono (by decide)) W.b_Store_set_kind .nil pass0 (pa_cons (pe_ix (ix_U hu1) (pv 5) pe_int (fun _ _ => rfl)) (pa_cons (pe_ix (ix_U hu1) (pv 5) pe_int (fun _ _ => rfl)) pa_nil))))
      (pss_one (ps_for PassesOwn.never rfl (pi_range1 (by rfl) W.n_range (pa_cons (pe_callB call_lenU (by rfl) W.n_len bb_len (pa_cons (pe_ix (ix_U hu1) (pv 5) pe_int (fun _ _ => rfl)) pa_nil)) pa_nil)) (pg_name (i := 7) sc__law_linked.nd rfl (by first | exact Or.inl rfl | exact Or.inr rfl)) (pss_cons (ps_asg (pe_call (ok__law_word W) (hr.mono (by decide)) rfl W.g__law_word W.F__law_word.kp W.b__law_word .nil pass0 (pa_cons (pe_op op_addU (pe_op op_addU (pe_op op_fdivW (pv 6) pe_int) (pe_op op_mulU (pv 7) pe_int)) (pe_op op_mulU (pv 7) (pv 7))) (pa_cons (pe_callB call_lenU (by rfl) W.n_len bb_len (pa_cons (pv 1) pa_nil)) pa_nil))) (pg_sub (pe_ix (ix_U hu1) (pv 5) pe_int (fun _ _ => rfl)) (pv 7) set_list))
      (pss_one (ps_expr (pe_meth (pv 0) W.C_Store W.m_Store_put (ok_Store_put W) (hr.mono (by decide)) W.b_Store_put .nil pass0 (pa_cons (pe_ix (ix_U hu1) (pv 5) pe_int (fun _ _ => rfl)) (pa_cons (pv 7) (pa_cons (pe_ix (ix_U hu1) (pe_ix (ix_U hu1) (pv 5) pe_int (fun _ _ => rfl)) (pv 7) (fun _ _ => rfl)) pa_nil))))))))))) pss_nil)))))))), ?_⟩
    have sX : ∀ b, b ∈ [st, wl, pl] → b ∈ st :: wl :: pl :: rl :: ad A := fun b hb => by
      simp only [List.mem_cons, List.not_mem_nil, or_false] at hb
      rcases hb with h | h | h <;> simp [h]
    have lenR : ∀ H', RowAt H' rl A O → True := fun _ _ => trivial
    refine ⟨_, rfl, _, rfl, Or.inl ⟨_, Or.inl (SqL.of L.R.rl), ?_⟩⟩
    rw [List.length_map, L.R.len]
    refine ⟨_, rfl, by omega, by omega, for_range (lo := 0) (n := O.length) (fun _ σ H' => ∃ (r : Int) (v4 v5 v6 v7 : Option V) (O' : List Ob), σ = [some (.ref st), some (.ref rl), some (.int x), some (.int r), v4, v5, v6, v7] ∧ Law4 W.c_Store H' st dx wl pl rl A O' kvs least ∧ O'.length = O.length ∧ Fr (st :: wl :: pl :: rl :: ad A) H H')
      ⟨x, none, none, none, none, O, rfl, L, rfl, Fr.rfl'⟩ (fun i σ H1 hi hI => ?_) (fun σ H1 hI => ?_)⟩
    · obtain ⟨r, v4, v5, v6, v7, O1, rfl, L1, hl1, f1⟩ := hI
      have hi1 : i < O1.length := by omega
      obtain ⟨a, ha, q1, q2⟩ := L1.R.get (List.getElem?_eq_getElem hi1)
      have ho := List.getElem?_eq_getElem hi1
      generalize O1[i] = o at ho q1 q2
      have ma := List.mem_of_getElem? ha
      have d5a := L1.D.d5 a ma
      have sA : a.1 ∈ st :: wl :: pl :: rl :: ad A := by simp [(ad_mem ma).1]
      have sA2 : a.2 ∈ st :: wl :: pl :: rl :: ad A := by simp [(ad_mem ma).2]
      have hra : (A.map fun a => V.ref a.1)[i]? = some (V.ref a.1) := by rw [List.getElem?_map, ha]; rfl
      refine ⟨_, rfl, _, rfl, Or.inl ⟨_, _, _, rfl, Or.inl (SqL.of L1.R.rl), by rw [Int.zero_add]; exact atI_nat hra, ?_⟩⟩
      refine ⟨_, rfl, _, rfl, ?_⟩
      refine ⟨_, rfl, ?_⟩
      refine ⟨_, _, rfl, by omega, by omega, fun y hy => ?_⟩
      refine ⟨_, rfl, _, _, rfl, rfl, ⟨by decide, by decide⟩, ?_⟩
      refine ⟨_, rfl, Or.inl ⟨_, _, _, rfl, Or.inl (SqL.of q1), rfl, ?_⟩⟩
      refine ⟨_, rfl, ?_⟩
      cases hv : o.live with
      | false => exact iteF ⟨_, _, _, _, _, O1, rfl, L1, hl1, f1⟩
      | true =>
        refine iteT ?_
        refine ⟨_, rfl, _, rfl, Or.inl ⟨_, Or.inl (SqL.of L1.R.rl), ?_⟩⟩
        rw [List.length_map, L1.R.len]
        refine ⟨_, _, rfl, by omega, by omega, fun x1 => ?_⟩
        refine ⟨_, rfl, a.1, _, _, 1, rfl, rfl, q1, rfl, ?_⟩
        have e3 : L2.upd H1 a.1 (.lst ([V.int o.num, .int o.kind, .ref a.2, .bl o.live].set 1 (.int x1))) = upd H1 a.1 (.lst [V.int o.num, .int x1, .ref a.2, .bl o.live]) := rfl
        rw [e3]
        have f2 : Fr [a.1] H1 (upd H1 a.1 (.lst [V.int o.num, .int x1, .ref a.2, .bl o.live])) := Fr.at (by simp)
        have q3 : upd H1 a.1 (.lst [V.int o.num, .int x1, .ref a.2, .bl o.live]) a.1 = some (.lst [V.int o.num, .int x1, .ref a.2, .bl o.live]) := upd_same
        have S2 := L1.S.keep f2 (fun c hc h => by
          have h : c = a.1 := by simpa using h
          rw [h] at hc; exact d5a.1 hc)
        generalize upd H1 a.1 (.lst [V.int o.num, .int x1, .ref a.2, .bl o.live]) = H2 at f2 S2 q3
        refine ⟨_, rfl, st, dx, _, rfl, S2.st, rfl, ?_⟩
        refine ⟨_, rfl, Or.inl ⟨_, _, _, rfl, Or.inl (SqL.of q3), rfl, ?_⟩⟩
        refine ⟨_, rfl, Or.inl ⟨_, _, _, rfl, Or.inl (SqL.of q3), rfl, ?_⟩⟩
        refine ⟨st, dx, wl, pl, _, _, least, _, kvs, o.num, off O1 i, x1, rfl, S2, L1.G.at ho hv, by have := off_lt ho; omega, ?_⟩
        have nwl : a.1 ≠ wl := fun e => d5a.1 (by rw [e]; simp)
        have nst : st ≠ wl := ne_of S2.st S2.wl (by intro z; cases z)
        have npl : pl ≠ wl := ne_of S2.pl S2.wl (by intro z; cases z)
        have f3 : Fr [wl] H2 (upd H2 wl (.lst (((flat O1).set (off O1 i + 2) x1).map V.int))) := Fr.at (by simp)
        have S3 : StoreAt (upd H2 wl (.lst (((flat O1).set (off O1 i + 2) x1).map V.int))) W.c_Store st dx wl pl 100000 100000 least ((flat O1).set (off O1 i + 2) x1) kvs := ⟨f3 _ _ S2.st (by simpa using nst), upd_same, f3 _ _ S2.pl (by simpa using npl)⟩
        have L3 := L1.kind ha ho S3 (f3 _ _ q3 (by simpa using nwl)) ((f2.mono (by simp)).trans (f3.mono (by simp)))
        have f4 : Fr (st :: wl :: pl :: rl :: ad A) H (upd H2 wl (.lst (((flat O1).set (off O1 i + 2) x1).map V.int))) := f1.trans ((f2.mono fun b hb => by
          have h : b = a.1 := by simpa using hb
          rw [h]; exact sA).trans (f3.mono fun b hb => by
          have h : b = wl := by simpa using hb
          rw [h]; simp))
        generalize upd H2 wl (.lst (((flat O1).set (off O1 i + 2) x1).map V.int)) = H3 at L3 f4
        have ho3 : (O1.set i { o with kind := x1 })[i]? = some { o with kind := x1 } := by rw [set_get ho, if_pos rfl]
        obtain ⟨t1, t2⟩ := L3.R.it i a _ ha ho3
        refine ⟨_, rfl, Or.inl ⟨_, _, _, rfl, Or.inl (SqL.of t1), rfl, ?_⟩⟩
        refine Or.inl ⟨_, Or.inl (SqL.of t2), ?_⟩
        rw [List.length_map]
        have ss := L1.sz o (List.mem_of_getElem? ho)
        refine ⟨_, rfl, by show -(2 ^ 62) ≤ ((o.sl.length : Nat) : Int); omega, by show ((o.sl.length : Nat) : Int) < 2 ^ 62; omega, for_range (lo := 0) (n := o.sl.length) (fun _ σ H' => ∃ (r : Int) (v4 v7 : Option V) (O' : List Ob) (o' : Ob), σ = [some (.ref st), some (.ref rl), some (.int x), some (.int r), v4, some (.ref a.1), some (.int y), v7] ∧ Law4 W.c_Store H' st dx wl pl rl A O' kvs least ∧ O'.length = O.length ∧ Fr (st :: wl :: pl :: rl :: ad A) H H' ∧ O'[i]? = some o' ∧ o'.live = true ∧ o'.sl.length = o.sl.length)
          ⟨_, _, _, _, _, rfl, L3, by rw [List.length_set]; exact hl1, f4, ho3, hv, rfl⟩ (fun j σ H4 hj hI => ?_) (fun σ H4 hI => ?_)⟩
        · obtain ⟨r4, v44, v74, O4, o4, rfl, L4, hl4, f5, ho4, lv4, sl4⟩ := hI
          obtain ⟨q1, q2⟩ := L4.R.it i a o4 ha ho4
          refine ⟨_, rfl, _, _, rfl, rfl, ⟨by decide, by decide⟩, ?_⟩
          refine ⟨_, rfl, Or.inr ⟨by decide, by decide⟩, ?_⟩
          refine ⟨_, rfl, _, rfl, Or.inl ⟨by omega, by omega⟩, ?_⟩
          refine ⟨_, rfl, Or.inl ⟨_, Or.inl (SqL.of L4.R.rl), ?_⟩⟩
          rw [List.length_map, L4.R.len]
          refine ⟨_, _, rfl, by omega, by omega, fun x2 => ?_⟩
          refine ⟨_, rfl, Or.inl ⟨_, _, _, rfl, Or.inl (SqL.of q1), rfl, ?_⟩⟩
          refine ⟨_, rfl, a.2, _, _, j, rfl, rfl, q2, by rw [Int.zero_add]; exact ixN_nat (by rw [List.length_map]; omega), ?_⟩
          rw [set_int]
          have f6 : Fr [a.2] H4 (upd H4 a.2 (.lst ((o4.sl.set j x2).map V.int))) := Fr.at (by simp)
          have q3 : upd H4 a.2 (.lst ((o4.sl.set j x2).map V.int)) a.2 = some (.lst ((o4.sl.set j x2).map V.int)) := upd_same
          have S5 := L4.S.keep f6 (fun c hc h => by
            have h : c = a.2 := by simpa using h
            rw [h] at hc; exact d5a.2 hc)
          have q1' := f6 _ _ q1 (by simpa using L4.D.d2 a a ma ma)
          generalize upd H4 a.2 (.lst ((o4.sl.set j x2).map V.int)) = H5 at f6 S5 q3 q1'
          refine ⟨_, rfl, st, dx, _, rfl, S5.st, rfl, ?_⟩
          refine ⟨_, rfl, Or.inl ⟨_, _, _, rfl, Or.inl (SqL.of q1'), rfl, ?_⟩⟩
          refine ⟨_, rfl, ?_⟩
          refine ⟨_, rfl, Or.inl ⟨_, _, _, rfl, Or.inl (SqL.of q1'), rfl, ?_⟩⟩
          have hx2 : (o4.sl.set j x2)[j]? = some x2 := by rw [List.getElem?_set]; simp; omega
          refine ⟨_, rfl, Or.inl ⟨_, _, _, rfl, Or.inl (SqL.of q3), by rw [Int.zero_add]; exact atI_nat (int_at hx2), ?_⟩⟩
          refine ⟨st, dx, wl, pl, _, _, least, _, kvs, o4.num, off O4 i, j, x2, by rw [Int.zero_add]; rfl, S5, L4.G.at ho4 lv4, by have := off_lt ho4; omega, ?_⟩
          have nwl : a.2 ≠ wl := fun e => d5a.2 (by rw [e]; simp)
          have nst : st ≠ wl := ne_of S5.st S5.wl (by intro z; cases z)
          have npl : pl ≠ wl := ne_of S5.pl S5.wl (by intro z; cases z)
          have f7 : Fr [wl] H5 (upd H5 wl (.lst (((flat O4).set (off O4 i + 3 + j) x2).map V.int))) := Fr.at (by simp)
          have S6 : StoreAt (upd H5 wl (.lst (((flat O4).set (off O4 i + 3 + j) x2).map V.int))) W.c_Store st dx wl pl 100000 100000 least ((flat O4).set (off O4 i + 3 + j) x2) kvs := ⟨f7 _ _ S5.st (by simpa using nst), upd_same, f7 _ _ S5.pl (by simpa using npl)⟩
          have L6 := L4.slot ha ho4 (by omega : j < o4.sl.length) S6 (f7 _ _ q3 (by simpa using nwl)) ((f6.mono (by simp)).trans (f7.mono (by simp)))
          refine ⟨_, _, _, _, { o4 with sl := o4.sl.set j x2 }, rfl, L6, by rw [List.length_set]; exact hl4, f5.trans ((f6.mono fun b hb => by
            have h : b = a.2 := by simpa using hb
            rw [h]; exact sA2).trans (f7.mono fun b hb => by
            have h : b = wl := by simpa using hb
            rw [h]; simp)), by rw [set_get ho4, if_pos rfl], lv4, by rw [List.length_set]; exact sl4⟩
        · obtain ⟨r4, v44, v74, O4, o4, rfl, L4, hl4, f5, ho4, lv4, sl4⟩ := hI
          exact ⟨_, _, _, _, _, O4, rfl, L4, hl4, f5⟩
    · obtain ⟨r, v4, v5, v6, v7, O1, rfl, L1, hl1, f1⟩ := hI
      exact k O1 H1 L1 hl1 f1
end

end LX
namespace LX
open PySem PySem.Spec PyProof.Rows L2 NdefX
section
variable {P : Program} {w : World} {K : PySem.W.Frag} {mg : Str → Option Value} {base : Heap}
theorem ok__law_chained (W : WT P K mg base) : FnOk P w K mg base CX0 2 W.f__law_chained W.fd__law_chained ["_law_store", "_law_row"] (fun vs H Q _ => ∃ st dx wl pl rl A O kvs least, vs = [.ref st, .ref rl] ∧ Law4 W.c_Store H st dx wl pl rl A O kvs least ∧ O.length ≤ 80 ∧
  ∀ O' H', Law4 W.c_Store H' st dx wl pl rl A O' kvs least → O'.length = O.length → Fr (st :: wl :: pl :: rl :: ad A) H H' → Q .non H') := by
  refine W.F__law_chained.ok sc__law_chained (fun vs H Q E h => ?_) (fun cdv Ar outer s H vs Q E hr h => ?_)
  · obtain ⟨st, dx, wl, pl, rl, A, O, kvs, least, rfl, _⟩ := h
    rfl
  · obtain ⟨st, dx, wl, pl, rl, A, O, kvs, least, rfl, L, hO, k⟩ := h
    have hu1 := hu_of hr
    have hu64 := hu64_of hr
    refine ⟨_, (pss_cons (ps_set (i := 2) sc__law_chained.nd rfl (by first | exact Or.inl rfl | exact Or.inr rfl) (pe_call (ok__law_living W) (hr.mono (by decide)) rfl W.g__law_living W.F__law_living.kp W.b__law_living .nil pass0 (pa_cons (pv 1) pa_nil)))
      (pss_one (ps_for PassesOwn.never rfl (pi_range1 (by rfl) W.n_range (pa_cons (pe_callB call_lenU (by rfl) W.n_len bb_len (pa_cons (pv 2) pa_nil)) pa_nil)) (pg_name (i := 3) sc__law_chained.nd rfl (by first | exact Or.inl rfl | exact Or.inr rfl)) (pss_one (ps_if (PW.pt (pw_and (pt_truth (pe_ix (ix_U hu1) (pe_ix (ix_U hu1) (pv 2) (pv 3) (fun _ _ => rfl)) pe_int (fun _ _ => rfl)) (by intro _; rfl)) (pw_and1 (pt_cmpR op_gtU (pv 3) pe_int (by first | exact nomark _ | rfl))))) (pss_cons (ps_asg (pe_op op_mulU pe_int (pe_ix (ix_U hu1) (pe_ix (ix_U hu1) (pv 2) (pe_op op_sub (pv 3) pe_int) (fun _ _ => rfl)) pe_int (fun _ _ => rfl))) (pg_sub (pe_ix (ix_U hu1) (pe_ix (ix_U hu1) (pv 2) (pv 3) (fun _ _ => rfl)) pe_int (fun _ _ => rfl)) pe_int set_list))
      (pss_one (ps_expr (pe_meth (pv 0) W.C_Store W.m_Store_put (ok_Store_put W) (hr.mono (by decide)) W.b_Store_put .nil pass0 (pa_cons (pe_ix (ix_U hu1) (pe_ix (ix_U hu1) (pv 2) (pv 3) (fun _ _ => rfl)) pe_int (fun _ _ => rfl)) (pa_cons pe_int (pa_cons (pe_ix (ix_U hu1) (pe_ix (ix_U hu1) (pe_ix (ix_U hu1) (pv 2) (pv 3) (fun _ _ => rfl)) pe_int (fun _ _ => rfl)) pe_int (fun _ _ => rfl)) pa_nil))))))) pss_nil))))), ?_⟩
    refine ⟨_, rfl, rl, A, O, rfl, L.R, by omega, fun q hq => ?_⟩
    have L1 := L.keep (Fr.new (o := .lst ((Zl A O).map fun z => V.ref z.1.1)) hq)
    have f1 : Fr (st :: wl :: pl :: rl :: ad A) H (upd H q (.lst ((Zl A O).map fun z => V.ref z.1.1))) := Fr.new hq
    have hZ : upd H q (.lst ((Zl A O).map fun z => V.ref z.1.1)) q = some (.lst ((Zl A O).map fun z => V.ref z.1.1)) := upd_same
    generalize upd H q (.lst ((Zl A O).map fun z => V.ref z.1.1)) = H1 at L1 hZ f1
    have zl : (Zl A O).length ≤ 80 := by
      have e := congrArg List.length (Zl_snd L.R.len)
      rw [List.length_map] at e
      have := List.length_filter_le (fun o : Ob => o.live) O
      omega
    have nq : q ≠ wl ∧ ∀ a ∈ A, q ≠ a.2 := ⟨(ne_of_none L.S.wl hq).symm, fun a ha => by
      obtain ⟨i, hi⟩ := List.getElem?_of_mem ha
      have hl : i < O.length := by rw [← L.R.len]; exact (List.getElem?_eq_some_iff.mp hi).1
      exact (ne_of_none (L.R.it i a _ hi (List.getElem?_eq_getElem hl)).2 hq).symm⟩
    refine ⟨_, rfl, Or.inl ⟨_, Or.inl (SqL.of hZ), ?_⟩⟩
    rw [List.length_map]
    refine ⟨_, rfl, by omega, by omega, for_range (lo := 0) (n := (Zl A O).length) (fun _ σ H' => ∃ (v3 : Option V) (O' : List Ob), σ = [some (.ref st), some (.ref rl), some (.ref q), v3] ∧ Law4 W.c_Store H' st dx wl pl rl A O' kvs least ∧ Same O O' ∧ Fr (st :: wl :: pl :: rl :: ad A) H H' ∧ H' q = some (.lst ((Zl A O).map fun z => V.ref z.1.1)))
      ⟨none, O, rfl, L1, Same.rfl', f1, hZ⟩ (fun i σ H2 hi hI => ?_) (fun σ H2 hI => ?_)⟩
    · obtain ⟨v3, O1, rfl, L2, sm, f2, hZ2⟩ := hI
      have item : ∀ j : Nat, j < (Zl A O).length → ∃ (a : Addr × Addr) (n : Nat) (o : Ob), ((Zl A O).map fun z => V.ref z.1.1)[j]? = some (.ref a.1) ∧ A[n]? = some a ∧ O1[n]? = some o ∧ o.live = true ∧ H2 a.1 = some (.lst [.int o.num, .int o.kind, .ref a.2, .bl o.live]) ∧ H2 a.2 = some (.lst (o.sl.map V.int)) := fun j hj => by
        obtain ⟨n, q1, q2, q3⟩ := Zl_get (List.getElem_mem hj)
        obtain ⟨o', r1, r2, r3, r4⟩ := sm.2 n _ q2
        obtain ⟨t1, t2⟩ := L2.R.it n _ o' q1 r1
        exact ⟨_, n, o', by rw [List.getElem?_map, List.getElem?_eq_getElem hj]; rfl, q1, r1, r3.trans q3, t1, t2⟩
      obtain ⟨a, n, o, z1, ha, ho, hl, q1, q2⟩ := item i hi
      have ma := List.mem_of_getElem? ha
      have d5a := L2.D.d5 a ma
      have sA2 : a.2 ∈ st :: wl :: pl :: rl :: ad A := by simp [(ad_mem ma).2]
      refine ⟨_, rfl, _, rfl, Or.inl ⟨_, _, _, rfl, Or.inl (SqL.of hZ2), by rw [Int.zero_add]; exact atI_nat z1, ?_⟩⟩
      refine Or.inl ⟨_, _, _, rfl, Or.inl (SqL.of q1), rfl, ?_⟩
      refine ⟨_, Or.inl ⟨_, SqL.of q2, rfl⟩, ?_⟩
      have fin : ∀ v, ∃ (v3 : Option V) (O' : List Ob), [some (.ref st), some (.ref rl), some (.ref q), v] = [some (V.ref st), some (.ref rl), some (.ref q), v3] ∧ Law4 W.c_Store H2 st dx wl pl rl A O' kvs least ∧ Same O O' ∧ Fr (st :: wl :: pl :: rl :: ad A) H H2 ∧ H2 q = some (.lst ((Zl A O).map fun z => V.ref z.1.1)) := fun v => ⟨v, O1, rfl, L2, sm, f2, hZ2⟩
      refine iteE (fun hne => ?_) (fin _)
      have hpos : 0 < o.sl.length := by
        cases e : o.sl with
        | nil => rw [e] at hne; exact absurd rfl hne
        | cons => simp
      refine ⟨_, rfl, _, rfl, ?_⟩
      refine iteD (fun hk => ?_) (fun _ => fin _)
      have hk : (0 : Int) < 0 + (i : Int) := hk
      obtain ⟨b, m, p, y1, hb, hp, hl2, r1, r2⟩ := item (i - 1) (by omega)
      refine ⟨_, rfl, _, rfl, _, _, rfl, rfl, Or.inl ⟨_, _, _, rfl, Or.inl (SqL.of hZ2), by rw [show (0 : Int) + (i : Int) - 1 = ((i - 1 : Nat) : Int) by omega]; exact atI_nat y1, ?_⟩⟩
      refine Or.inl ⟨_, _, _, rfl, Or.inl (SqL.of r1), rfl, ?_⟩
      refine ⟨Or.inl ⟨by decide, by decide⟩, ?_⟩
      refine ⟨_, rfl, _, rfl, Or.inl ⟨_, _, _, rfl, Or.inl (SqL.of hZ2), by rw [Int.zero_add]; exact atI_nat z1, ?_⟩⟩
      refine Or.inl ⟨_, _, _, rfl, Or.inl (SqL.of q1), rfl, ?_⟩
      refine ⟨a.2, _, _, 0, rfl, rfl, q2, ixN_nat (i := 0) (by rw [List.length_map]; exact hpos), ?_⟩
      rw [set_int]
      have f6 : Fr [a.2] H2 (upd H2 a.2 (.lst ((o.sl.set 0 (2 * p.num)).map V.int))) := Fr.at (by simp)
      have q3 : upd H2 a.2 (.lst ((o.sl.set 0 (2 * p.num)).map V.int)) a.2 = some (.lst ((o.sl.set 0 (2 * p.num)).map V.int)) := upd_same
      have S5 := L2.S.keep f6 (fun c hc h => by
        have h : c = a.2 := by simpa using h
        rw [h] at hc; exact d5a.2 hc)
      have q1' := f6 _ _ q1 (by simpa using L2.D.d2 a a ma ma)
      have hZ5 := f6 _ _ hZ2 (by simpa using nq.2 a ma)
      generalize upd H2 a.2 (.lst ((o.sl.set 0 (2 * p.num)).map V.int)) = H5 at f6 S5 q3 q1' hZ5
      refine ⟨_, rfl, st, dx, _, rfl, S5.st, rfl, ?_⟩
      refine ⟨_, rfl, _, rfl, Or.inl ⟨_, _, _, rfl, Or.inl (SqL.of hZ5), by rw [Int.zero_add]; exact atI_nat z1, ?_⟩⟩
      refine Or.inl ⟨_, _, _, rfl, Or.inl (SqL.of q1'), rfl, ?_⟩
      refine ⟨_, rfl, _, rfl, Or.inl ⟨_, _, _, rfl, Or.inl (SqL.of hZ5), by rw [Int.zero_add]; exact atI_nat z1, ?_⟩⟩
      refine Or.inl ⟨_, _, _, rfl, Or.inl (SqL.of q1'), rfl, ?_⟩
      have hx2 : (o.sl.set 0 (2 * p.num))[0]? = some (2 * p.num) := by
        cases h : o.sl with
        | nil => rw [h] at hpos; simp at hpos
        | cons => rfl
      refine Or.inl ⟨_, _, _, rfl, Or.inl (SqL.of q3), atI_nat (j := 0) (int_at hx2), ?_⟩
      refine ⟨st, dx, wl, pl, _, _, least, _, kvs, o.num, off O1 n, 0, 2 * p.num, rfl, S5, L2.G.at ho hl, by have := off_lt ho; omega, ?_⟩
      have nwl : a.2 ≠ wl := fun e => d5a.2 (by rw [e]; simp)
      have nst : st ≠ wl := ne_of S5.st S5.wl (by intro z; cases z)
      have npl : pl ≠ wl := ne_of S5.pl S5.wl (by intro z; cases z)
      have f7 : Fr [wl] H5 (upd H5 wl (.lst (((flat O1).set (off O1 n + 3 + 0) (2 * p.num)).map V.int))) := Fr.at (by simp)
      have S6 : StoreAt (upd H5 wl (.lst (((flat O1).set (off O1 n + 3 + 0) (2 * p.num)).map V.int))) W.c_Store st dx wl pl 100000 100000 least ((flat O1).set (off O1 n + 3 + 0) (2 * p.num)) kvs := ⟨f7 _ _ S5.st (by simpa using nst), upd_same, f7 _ _ S5.pl (by simpa using npl)⟩
      have L6 := L2.slot ha ho hpos S6 (f7 _ _ q3 (by simpa using nwl)) ((f6.mono (by simp)).trans (f7.mono (by simp)))
      refine ⟨_, _, rfl, L6, sm.set ho rfl rfl (List.length_set), f2.trans ((f6.mono fun b hb => by
        have h : b = a.2 := by simpa using hb
        rw [h]; exact sA2).trans (f7.mono fun b hb => by
        have h : b = wl := by simpa using hb
        rw [h]; simp)), f7 _ _ hZ5 (by simpa using nq.1)⟩
    · obtain ⟨v3, O1, rfl, L2, sm, f2, hZ2⟩ := hI
      exact k O1 H2 L2 sm.1 f2
theorem Good.nil : Good [] [] 0 := ⟨fun k v => by simp [valV], List.nodup_nil, fun i j o o' h => by simp at h, ⟨Int.le_refl _, fun n h0 h1 => by omega⟩⟩
theorem ok__law_built (W : WT P K mg base) : FnOk P w K mg base CX0 4 W.f__law_built W.fd__law_built ["_law_store", "_law_cells"] (fun vs H Q _ => ∃ st dx wl pl cl, ∃ ns : List Int, vs = [.ref st, .ref cl] ∧ StoreAt H W.c_Store st dx wl pl 100000 100000 0 [] [] ∧ IsI H cl ns ∧ 2 ≤ ns.length ∧
  ∀ rl A O kvs least H', Law4 W.c_Store H' st dx wl pl rl A O kvs least → O.length ≤ 79 → Fr [st, wl, pl] H H' → Q (.ref rl) H') := by
  refine W.F__law_built.ok sc__law_built (fun vs H Q E h => ?_) (fun cdv Ar outer s H vs Q E hr h => ?_)
  · obtain ⟨st, dx, wl, pl, cl, ns, rfl, _⟩ := h
    rfl
  · obtain ⟨st, dx, wl, pl, cl, ns, rfl, S, hc, hn, k⟩ := h
    have hu1 := hu_of hr
    have hu64 := hu64_of hr
    refine ⟨_, (pss_cons (ps_set (i := 2) sc__law_built.nd rfl (by first | exact Or.inl rfl | exact Or.inr rfl) (pe_lst pa_nil))
      (pss_cons (ps_set (i := 3) sc__law_built.nd rfl (by first | exact Or.inl rfl | exact Or.inr rfl) (pe_op op_mod (pe_call (ok__law_number W) (hr.mono (by decide)) rfl W.g__law_number W.F__law_number.kp W.b__law_number .nil pass0 (pa_cons (pe_ix (ix_U hu1) (pv 1) pe_int (fun _ _ => rfl)) (pa_cons pe_int pa_nil))) pe_int))
      (Evl.pss_cut (ps_if (pt_cmpR (op_eqU hu64) (pe_op op_mod (pe_op op_fdivW (pe_call (ok__law_number W) (hr.mono (by decide)) rfl W.g__law_number W.F__law_number.kp W.b__law_number .nil pass0 (pa_cons (pe_ix (ix_U hu1) (pv 1) pe_int (fun _ _ => rfl)) (pa_cons pe_int pa_nil))) pe_int) pe_int) pe_int (by first | exact nomark _ | rfl)) (pss_one (ps_set (i := 3) sc__law_built.nd rfl (by first | exact Or.inl rfl | exact Or.inr rfl) (pe_op op_mod (pe_op op_fdivW (pe_call (ok__law_number W) (hr.mono (by decide)) rfl W.g__law_number W.F__law_number.kp W.b__law_number .nil pass0 (pa_cons (pe_ix (ix_U hu1) (pv 1) pe_int (fun _ _ => rfl)) (pa_cons pe_int pa_nil))) pe_int) pe_int))) pss_nil)
      (pss_cons (ps_set (i := 4) sc__law_built.nd rfl (by first | exact Or.inl rfl | exact Or.inr rfl) (pe_op op_fdivW (pe_call (ok__law_number W) (hr.mono (by decide)) rfl W.g__law_number W.F__law_number.kp W.b__law_number .nil pass0 (pa_cons (pe_ix (ix_U hu1) (pv 1) pe_int (fun _ _ => rfl)) (pa_cons pe_int pa_nil))) pe_int))
      (pss_cons (ps_for PassesOwn.never rfl (pi_range1 (by rfl) W.n_range (pa_cons (pv 3) pa_nil)) (pg_name (i := 5) sc__law_built.nd rfl (by first | exact Or.inl rfl | exact Or.inr rfl)) (pss_cons (ps_expr (pe_call (ok__law_grown W) (hr.mono (by decide)) rfl W.g__law_grown W.F__law_grown.kp W.b__law_grown .nil pass0 (pa_cons (pv 0) (pa_cons (pv 2) (pa_cons (pe_call (ok__law_number W) (hr.mono (by decide)) rfl W.g__law_number W.F__law_number.kp W.b__law_number .nil pass0 (pa_cons (pe_op op_addU (pv 4) (pv 5)) (pa_cons (pe_op op_addU (pv 5) pe_int) pa_nil))) pa_nil)))))
      (pss_one (ps_set (i := 4) sc__law_built.nd rfl (by first | exact Or.inl rfl | exact Or.inr rfl) (pe_op op_fdivW (pv 4) pe_int)))))
      (pss_cons (ps_expr (pe_call (ok__law_linked W) (hr.mono (by decide)) rfl W.g__law_linked W.F__law_linked.kp W.b__law_linked .nil pass0 (pa_cons (pv 0) (pa_cons (pv 2) (pa_cons (pe_ix (ix_U hu1) (pv 1) pe_int (fun _ _ => rfl)) pa_nil)))))
      (pss_cons (ps_if (pt_cmpR (op_eqU hu64) (pe_op op_mod (pe_callTy call_intU (by rfl) W.n_int bb_int (pa_cons (pe_ix (ix_U hu1) (pv 1) pe_int (fun _ _ => rfl)) pa_nil)) pe_int) pe_int (by first | exact nomark _ | rfl)) (pss_one (ps_expr (pe_call (ok__law_chained W) (hr.mono (by decide)) rfl W.g__law_chained W.F__law_chained.kp W.b__law_chained .nil pass0 (pa_cons (pv 0) (pa_cons (pv 2) pa_nil))))) pss_nil)
      (pss_one (ps_ret (pv 2)))))))))), ?_⟩
    have ncl : cl ∉ [st, wl, pl] := fun h => by
      simp only [List.mem_cons, List.not_mem_nil, or_false] at h
      unfold IsI at hc
      rcases h with h | h | h
      · rw [h, S.st] at hc; cases hc
      · rw [h, S.wl] at hc
        have hc : HO.lst ([].map V.int) = .lst (ns.map V.int) := Option.some.inj hc
        cases ns with
        | nil => simp at hn
        | cons => cases hc
      · rw [h, S.pl] at hc; cases hc
    obtain ⟨c0, hc0⟩ : ∃ c, ns[0]? = some c := ⟨_, List.getElem?_eq_getElem (by omega)⟩
    obtain ⟨c1, hc1⟩ : ∃ c, ns[1]? = some c := ⟨_, List.getElem?_eq_getElem (by omega)⟩
    refine ⟨(by show 0 ≤ sizeLine; decide), fun rl hrl => ?_⟩
    have L0 : Law4 W.c_Store (upd H rl (.lst [])) st dx wl pl rl [] [] [] 0 := by
      have f : Fr [] H (upd H rl (.lst [])) := Fr.new hrl
      refine ⟨S.keep f (by simp), Good.nil, ⟨upd_same, rfl, fun i a o h => by simp at h⟩, ⟨fun i j a b h => by simp at h, fun a b h => by simp at h, fun a h => by simp at h, fun h => ?_, fun a h => by simp at h⟩, fun o h => by simp at h, fun o h => by simp at h⟩
      simp only [List.mem_cons, List.not_mem_nil, or_false] at h
      rcases h with h | h | h
      · rw [h, S.st] at hrl; cases hrl
      · rw [h, S.wl] at hrl; cases hrl
      · rw [h, S.pl] at hrl; cases hrl
    have f0 : Fr [st, wl, pl] H (upd H rl (.lst [])) := Fr.new hrl
    generalize upd H rl (.lst []) = H0 at L0 f0
    have hc' := f0 _ _ hc ncl
    have cell : ∀ {H' : Hp} (R : V → Hp → Prop), H' cl = some (.lst (ns.map V.int)) → R (.int c0) H' → rIxU K (.ref cl) (.int 0) H' R := fun R h hR => Or.inl ⟨_, _, _, rfl, Or.inl (SqL.of h), atI_nat (j := 0) (int_at hc0), hR⟩
    have cell1 : ∀ {H' : Hp} (R : V → Hp → Prop), H' cl = some (.lst (ns.map V.int)) → R (.int c1) H' → rIxU K (.ref cl) (.int 1) H' R := fun R h hR => Or.inl ⟨_, _, _, rfl, Or.inl (SqL.of h), atI_nat (j := 1) (int_at hc1), hR⟩
    refine ⟨_, rfl, cell _ hc' ?_⟩
    refine ⟨_, _, rfl, by decide, by decide, fun r1 _ => ?_⟩
    refine ⟨_, _, rfl, rfl, (by show (0 : Int) < 13; decide), ?_⟩
    refine ⟨fun σ H' => ∃ n : Nat, n ≤ 79 ∧ σ = [some (.ref st), some (.ref cl), some (.ref rl), some (.int (n : Int)), none, none] ∧ H' = H0, ?_, ?_⟩
    · refine ⟨_, rfl, cell _ hc' ?_⟩
      refine ⟨_, _, rfl, by decide, by decide, fun r2 _ => ?_⟩
      refine ⟨_, _, rfl, rfl, ⟨by decide, by decide⟩, _, _, rfl, rfl, (by show (0 : Int) < 8; decide), rfl, _, rfl, ?_⟩
      refine iteD (fun _ => ?_) (fun _ => ?_)
      · refine ⟨_, rfl, cell _ hc' ?_⟩
        refine ⟨_, _, rfl, by decide, by decide, fun r3 _ => ?_⟩
        refine ⟨_, _, rfl, rfl, ⟨by decide, by decide⟩, _, _, rfl, rfl, (by show (0 : Int) < 80; decide), ?_⟩
        have e1 := Int.emod_nonneg (r3 / 104) (by decide : (80 : Int) ≠ 0)
        have e2 := Int.emod_lt_of_pos (r3 / 104) (by decide : (0 : Int) < 80)
        exact ⟨(r3 / 104 % 80).toNat, by omega, by rw [show ((r3 / 104 % 80).toNat : Int) = r3 / 104 % 80 by omega]; rfl, rfl⟩
      · have e1 := Int.emod_nonneg r1 (by decide : (13 : Int) ≠ 0)
        have e2 := Int.emod_lt_of_pos r1 (by decide : (0 : Int) < 13)
        exact ⟨(r1 % 13).toNat, by omega, by rw [show ((r1 % 13).toNat : Int) = r1 % 13 by omega]; rfl, rfl⟩
    · rintro σ H1 ⟨n, hn79, rfl, rfl⟩
      refine ⟨_, rfl, cell _ hc' ?_⟩
      refine ⟨_, _, rfl, by decide, by decide, fun r4 _ => ?_⟩
      refine ⟨_, _, rfl, rfl, ⟨by decide, by decide⟩, ?_⟩
      refine ⟨_, rfl, _, rfl, by omega, by omega, ?_⟩
      rw [Int.toNat_natCast]
      refine for_range (lo := 0) (n := n) (fun i σ H' => ∃ (r : Int) (v : Option V) (A : List (Addr × Addr)) (O : List Ob) (kvs : List (Key × V)) (least : Int), σ = [some (.ref st), some (.ref cl), some (.ref rl), some (.int (n : Int)), some (.int r), v] ∧ Law4 W.c_Store H' st dx wl pl rl A O kvs least ∧ O.length = i ∧ Fr [st, wl, pl] H H' ∧ ∀ a ∈ A, H a.1 = none ∧ H a.2 = none)
        ⟨_, _, [], [], [], 0, rfl, L0, rfl, f0, fun a h => by simp at h⟩ (fun i σ H2 hi hI => ?_) (fun σ H2 hI => ?_)
      · obtain ⟨r, v, A, O, kvs, least, rfl, L, hl, f, nw⟩ := hI
        refine ⟨_, rfl, _, rfl, _, rfl, ?_⟩
        refine ⟨_, rfl, ?_⟩
        refine ⟨_, rfl, ?_⟩
        refine ⟨_, _, rfl, by omega, by omega, fun y hy => ?_⟩
        refine ⟨st, dx, wl, pl, rl, A, O, kvs, least, y, rfl, L, by omega, fun A2 O2 kvs2 least2 H3 L3 hl3 nw3 f3 => ?_⟩
        refine ⟨_, rfl, _, _, rfl, rfl, ⟨by decide, by decide⟩, ?_⟩
        have back : ∀ c, H2 c = none → H c = none := fun c hc => by
          cases e : H c with
          | none => rfl
          | some o =>
            by_cases hm : c ∈ [st, wl, pl]
            · simp only [List.mem_cons, List.not_mem_nil, or_false] at hm
              rcases hm with h | h | h
              · rw [h, L.S.st] at hc; cases hc
              · rw [h, L.S.wl] at hc; cases hc
              · rw [h, L.S.pl] at hc; cases hc
            · rw [f _ _ e hm] at hc; cases hc
        refine ⟨_, _, A2, O2, kvs2, least2, rfl, L3, by omega, fun b o e hb => ?_, fun a ha => ?_⟩
        · refine f3 b o (f b o e hb) fun hm => ?_
          have hm : b = st ∨ b = wl ∨ b = pl ∨ b = rl ∨ b ∈ ad A := by simpa using hm
          have hb : ¬ b = st ∧ ¬ b = wl ∧ ¬ b = pl := by simpa using hb
          rcases hm with h | h | h | h | h
          · exact hb.1 h
          · exact hb.2.1 h
          · exact hb.2.2 h
          · rw [h, hrl] at e; cases e
          · obtain ⟨c, hc, hc2⟩ := List.mem_flatMap.mp h
            have hc2 : b = c.1 ∨ b = c.2 := by simpa using hc2
            have := nw c hc
            rcases hc2 with h | h
            · rw [h, this.1] at e; cases e
            · rw [h, this.2] at e; cases e
        · rcases nw3 a ha with h | ⟨h1, h2⟩
          · exact nw a h
          · exact ⟨back _ h1, back _ h2⟩
      · obtain ⟨r, v, A, O, kvs, least, rfl, L, hl, f, nw⟩ := hI
        have cl2 := f _ _ hc ncl
        have sub : ∀ {Ha Hb : Hp}, Fr [st, wl, pl] H Ha → Fr (st :: wl :: pl :: rl :: ad A) Ha Hb → Fr [st, wl, pl] H Hb := fun fa fb b o e hb => by
          refine fb b o (fa b o e hb) fun hm => ?_
          have hm : b = st ∨ b = wl ∨ b = pl ∨ b = rl ∨ b ∈ ad A := by simpa using hm
          have hb : ¬ b = st ∧ ¬ b = wl ∧ ¬ b = pl := by simpa using hb
          rcases hm with h | h | h | h | h
          · exact hb.1 h
          · exact hb.2.1 h
          · exact hb.2.2 h
          · rw [h, hrl] at e; cases e
          · obtain ⟨c, hc, hc2⟩ := List.mem_flatMap.mp h
            have hc2 : b = c.1 ∨ b = c.2 := by simpa using hc2
            have := nw c hc
            rcases hc2 with h | h
            · rw [h, this.1] at e; cases e
            · rw [h, this.2] at e; cases e
        refine ⟨_, rfl, _, rfl, _, rfl, cell1 _ cl2 ?_⟩
        refine ⟨st, dx, wl, pl, rl, A, O, kvs, least, c1, rfl, L, by omega, fun O3 H3 L3 hl3 f3 => ?_⟩
        have f3 := sub f f3
        have cl3 := f3 _ _ hc ncl
        refine ⟨_, rfl, cell1 _ cl3 ?_⟩
        refine ⟨_, _, rfl, rfl, (by show (0 : Int) < 3; decide), rfl, _, rfl, ?_⟩
        refine iteD (fun _ => ?_) (fun _ => ?_)
        · refine ⟨_, rfl, _, rfl, ?_⟩
          refine ⟨st, dx, wl, pl, rl, A, O3, kvs, least, rfl, L3, by omega, fun O4 H4 L4 hl4 f4 => ?_⟩
          exact ⟨_, rfl, k rl A O4 kvs least H4 L4 (by omega) (sub f3 f4)⟩
        · exact ⟨_, rfl, k rl A O3 kvs least H3 L3 (by omega) f3⟩
def sp_roots : Sp := fun vs H Q _ => ∃ rl A O cl, ∃ ns : List Int, vs = [.ref rl, .ref cl] ∧ RowAt H rl A O ∧ O.length ≤ 80 ∧ IsI H cl ns ∧ 2 ≤ ns.length ∧ ns.length ≤ 65 ∧ ∀ D, ∀ rs : List Int, H D = none → rs.length ≤ 65 → Q (.ref D) (upd H D (.lst (rs.map V.int)))
theorem ok__law_roots (W : WT P K mg base) : FnOk P w K mg base CX0 2 W.f__law_roots W.fd__law_roots ["_law_row", "_law_cells"] sp_roots := by
  refine W.F__law_roots.ok sc__law_roots (fun vs H Q E h => ?_) (fun cdv Ar outer s H vs Q E hr h => ?_)
  · obtain ⟨rl, A, O, cl, ns, rfl, _⟩ := h
    rfl
  · obtain ⟨rl, A, O, cl, ns, rfl, R, hO, hc, hn, hn2, k⟩ := h
    have hu1 := hu_of hr
    have hu64 := hu64_of hr
    refine ⟨_, (pss_one (ps_ret (pe_lc (own := [("_law_k", 2)]) (g := gName 2) (tt := tYes) rfl sc__law_roots.nd (pi_range2 (by rfl) W.n_range (pa_cons pe_int (pa_cons (pe_callB call_lenU (by rfl) W.n_len bb_len (pa_cons (pv 1) pa_nil)) pa_nil))) (blkOk_by (N := N__law_roots) (sc := defScope s__law_roots) (by decide +kernel)) (fun _ _ _ _ _ => (pg_name (i := 2) sc__law_roots.nd rfl (by first | exact Or.inl rfl | exact Or.inr rfl))) (fun _ _ _ _ _ => pts_nil) (fun _ _ _ _ _ => (pe_call (ok__law_word W) (hr.mono (by decide)) rfl W.g__law_word W.F__law_word.kp W.b__law_word .nil pass0 (pa_cons (pe_call (ok__law_number W) (hr.mono (by decide)) rfl W.g__law_number W.F__law_number.kp W.b__law_number .nil pass0 (pa_cons (pe_ix (ix_UK (K := K) rfl (by exact hu1)) (pv 1) (pv 2) (fun _ _ => rfl)) (pa_cons (pv 2) pa_nil))) (pa_cons (pe_callB (call_lenUK (K := K) rfl) (by rfl) W.n_len bb_len (pa_cons (pv 0) pa_nil)) pa_nil))))))), ?_⟩
    refine ⟨_, rfl, Or.inl ⟨_, Or.inl (SqL.of hc), ?_⟩⟩
    rw [List.length_map]
    refine ⟨2, _, rfl, ⟨by decide, by decide, by omega, by omega⟩, fun D hD => ?_⟩
    refine lc_range (lo := 2) (n := ((ns.length : Int) - 2).toNat) (fun i H' => ∃ rs : List Int, rs.length = i ∧ H' = upd H D (.lst (rs.map V.int))) ⟨[], rfl, rfl⟩ (fun i H' hi e => ?_) (fun H' e => ?_)
    · obtain ⟨rs, hrs, rfl⟩ := e
      have hc' := Fr.new (F := []) (o := .lst (rs.map V.int)) hD cl _ hc (by simp)
      have hr' := Fr.new (F := []) (o := .lst (rs.map V.int)) hD rl _ R.rl (by simp)
      obtain ⟨c, hc2⟩ : ∃ c, ns[i + 2]? = some c := ⟨_, List.getElem?_eq_getElem (by omega)⟩
      refine ⟨rfl, ?_⟩
      refine ⟨_, rfl, _, rfl, Or.inl ⟨_, _, _, rfl, Or.inl (SqL.of hc'), by rw [show (2 : Int) + (i : Int) = ((i + 2 : Nat) : Int) by omega]; exact atI_nat (int_at hc2), ?_⟩⟩
      refine ⟨_, rfl, ?_⟩
      refine ⟨_, _, rfl, by omega, by omega, fun y hy => ?_⟩
      refine ⟨_, rfl, Or.inl ⟨_, Or.inl (SqL.of hr'), ?_⟩⟩
      rw [List.length_map, R.len]
      refine ⟨_, _, rfl, by omega, by omega, fun x1 => ?_⟩
      refine ⟨_, upd_same, by rw [List.length_map, sizeLine_eq]; omega, rs ++ [x1], by rw [List.length_append, hrs]; rfl, ?_⟩
      rw [upd_upd, List.map_append]
      rfl
    · obtain ⟨rs, hrs, rfl⟩ := e
      exact k D rs hD (by omega)
end

end LX
namespace LX
open PySem PySem.Spec PyProof.Rows L2 NdefX
/-! ### what is reached, plainly -/
def Live (O : List Ob) (n : Int) : Prop := ∃ (i : Nat) (o : Ob), O[i]? = some o ∧ o.live = true ∧ o.num = n
inductive Reach (O : List Ob) (rs : List Int) : Int → Prop where
  | root {w : Int} : w ∈ rs → w % 2 = 0 → Live O (w / 2) → Reach O rs (w / 2)
  | step {m w : Int} {i : Nat} {o : Ob} : Reach O rs m → O[i]? = some o → o.live = true → o.num = m → w ∈ o.kind :: o.sl → w % 2 = 0 → Live O (w / 2) → Reach O rs (w / 2)
theorem Reach.live {O : List Ob} {rs : List Int} {n : Int} (h : Reach O rs n) : Live O n := by cases h <;> assumption
theorem Good.iff {O : List Ob} {kvs : List (Key × V)} {least : Int} (G : Good O kvs least) (n : Int) : (valV kvs (.inl n)).isSome = true ↔ Live O n := by
  constructor
  · intro h
    obtain ⟨v, hv⟩ := Option.isSome_iff_exists.mp h
    obtain ⟨i, o, h1, h2, h3, _⟩ := (G.val _ _).mp hv
    exact ⟨i, o, h1, h2, (Sum.inl.inj h3).symm⟩
  · rintro ⟨i, o, h1, h2, rfl⟩
    rw [G.at h1 h2]; rfl
theorem nd_len {α : Type} [DecidableEq α] : ∀ (l m : List α), l.Nodup → (∀ x ∈ l, x ∈ m) → l.length ≤ m.length
  | [], _, _, _ => Nat.zero_le _
  | a :: l, m, h, hs => by
    obtain ⟨h1, h2⟩ := List.nodup_cons.mp h
    have hm := hs a List.mem_cons_self
    have := nd_len l (m.erase a) h2 fun x hx => (List.mem_erase_of_ne (fun e => h1 (by rw [← e]; exact hx))).mpr (hs x (List.mem_cons_of_mem _ hx))
    have hl := List.length_erase_of_mem hm
    have : 0 < m.length := List.length_pos_of_mem hm
    rw [List.length_cons]
    omega
theorem live_len {O : List Ob} {F : List Int} (h : F.Nodup) (hl : ∀ n ∈ F, Live O n) : F.length ≤ O.length := by
  have := nd_len F (O.map (·.num)) h fun n hn => by
    obtain ⟨i, o, h1, _, h3⟩ := hl n hn
    exact List.mem_map.mpr ⟨o, List.mem_of_getElem? h1, h3⟩
  rw [List.length_map] at this
  exact this
/-- the references among the words -/
def refs (ws : List Int) : List Int := (ws.filter fun w => decide (w % 2 = 0)).map (· / 2)
theorem mem_refs {ws : List Int} {n : Int} : n ∈ refs ws ↔ ∃ w, w ∈ ws ∧ w % 2 = 0 ∧ w / 2 = n := by
  unfold refs
  constructor
  · intro h
    obtain ⟨w, hw, e⟩ := List.mem_map.mp h
    obtain ⟨h1, h2⟩ := List.mem_filter.mp hw
    exact ⟨w, h1, of_decide_eq_true h2, e⟩
  · rintro ⟨w, h1, h2, e⟩
    exact List.mem_map.mpr ⟨w, List.mem_filter.mpr ⟨h1, decide_eq_true h2⟩, e⟩
theorem refs_len (ws : List Int) : (refs ws).length ≤ ws.length := by unfold refs; rw [List.length_map]; exact List.length_filter_le _ _
theorem refs_take_yes {ws : List Int} {i : Nat} {w : Int} (h : ws[i]? = some w) (he : w % 2 = 0) : refs (ws.take (i + 1)) = refs (ws.take i) ++ [w / 2] := by
  unfold refs
  rw [take_filter_yes h (decide_eq_true he), List.map_append]
  rfl
theorem refs_take_no {ws : List Int} {i : Nat} {w : Int} (h : ws[i]? = some w) (he : ¬ w % 2 = 0) : refs (ws.take (i + 1)) = refs (ws.take i) := by
  unfold refs
  rw [take_filter_no h (decide_eq_false he)]
/-- a search: found, waiting; part: the object whose words are not all looked at yet -/
structure Srch (O : List Ob) (rs F Wt : List Int) (part : Option (Int × List Int)) : Prop where
  nd : F.Nodup
  fr : ∀ n ∈ F, Reach O rs n
  wr : ∀ n ∈ Wt, Live O n → Reach O rs n
  root : ∀ w ∈ rs, w % 2 = 0 → Live O (w / 2) → w / 2 ∈ F ∨ w / 2 ∈ Wt
  clos : ∀ m ∈ F, ∀ (i : Nat) (o : Ob), O[i]? = some o → o.live = true → o.num = m → ∀ w ∈ (match part with | some (p, ws) => if m = p then ws else o.kind :: o.sl | none => o.kind :: o.sl), w % 2 = 0 → Live O (w / 2) → w / 2 ∈ F ∨ w / 2 ∈ Wt
theorem Srch.start (O : List Ob) (rs : List Int) : Srch O rs [] (refs rs) none := by
  refine ⟨List.nodup_nil, fun n h => by simp at h, fun n h hl => ?_, fun w h1 h2 _ => Or.inr (mem_refs.mpr ⟨w, h1, h2, rfl⟩), fun m h => by simp at h⟩
  obtain ⟨w, h1, h2, e⟩ := mem_refs.mp h
  subst e
  exact .root h1 h2 hl
theorem Srch.done {O : List Ob} {rs F : List Int} (S : Srch O rs F [] none) (n : Int) : n ∈ F ↔ Reach O rs n := by
  refine ⟨S.fr n, fun h => ?_⟩
  induction h with
  | root h1 h2 h3 => exact (S.root _ h1 h2 h3).resolve_right (by simp)
  | step h1 h2 h3 h4 h5 h6 h7 ih => exact (S.clos _ ih _ _ h2 h3 h4 _ h5 h6 h7).resolve_right (by simp)
theorem drop_last {α : Type} {l : List α} {x : α} (h : l[l.length - 1]? = some x) : l = l.dropLast ++ [x] := by
  have hne : l ≠ [] := fun e => by subst e; simp at h
  rw [← List.getLast?_eq_getElem?, List.getLast?_eq_some_getLast hne] at h
  cases h
  exact (List.dropLast_concat_getLast hne).symm
/-- the last one is known, or is none -/
theorem Srch.pop {O : List Ob} {rs F Wt : List Int} {n : Int} (S : Srch O rs F (Wt ++ [n]) none) (h : n ∈ F ∨ ¬ Live O n) : Srch O rs F Wt none := by
  have h2 : ∀ x, Live O x → x ∈ F ∨ x ∈ Wt ++ [n] → x ∈ F ∨ x ∈ Wt := fun x hx hh => by
    rcases hh with hh | hh
    · exact Or.inl hh
    · rcases List.mem_append.mp hh with hh | hh
      · exact Or.inr hh
      · have e : x = n := by simpa using hh
        subst e
        exact Or.inl (h.resolve_right fun z => z hx)
  exact ⟨S.nd, S.fr, fun m hm => S.wr m (List.mem_append_left _ hm), fun w h1 h2' h3 => h2 _ h3 (S.root w h1 h2' h3), fun m hm i o h1 h2' h3 w hw he hl => h2 _ hl (S.clos m hm i o h1 h2' h3 w hw he hl)⟩
/-- a new one is found -/
theorem Srch.find {O : List Ob} {rs F Wt : List Int} {n : Int} (S : Srch O rs F (Wt ++ [n]) none) (hn : n ∉ F) (hl : Live O n) : Srch O rs (F ++ [n]) Wt (some (n, [])) := by
  have h2 : ∀ x, x ∈ F ∨ x ∈ Wt ++ [n] → x ∈ F ++ [n] ∨ x ∈ Wt := fun x hh => by
    rcases hh with hh | hh
    · exact Or.inl (List.mem_append_left _ hh)
    · rcases List.mem_append.mp hh with hh | hh
      · exact Or.inr hh
      · exact Or.inl (List.mem_append_right _ hh)
  refine ⟨List.nodup_append.mpr ⟨S.nd, by simp, fun a ha b hb e => ?_⟩, fun m hm => ?_, fun m hm => S.wr m (List.mem_append_left _ hm), fun w h1 h2' h3 => h2 _ (S.root w h1 h2' h3), fun m hm i o h1 h3 h4 w hw he hlw => ?_⟩
  · have hb : b = n := by simpa using hb
    rw [e, hb] at ha
    exact hn ha
  · rcases List.mem_append.mp hm with hm | hm
    · exact S.fr m hm
    · have e : m = n := by simpa using hm
      rw [e]
      exact S.wr n (List.mem_append_right _ (by simp)) hl
  · by_cases e : m = n
    · simp only [if_pos e] at hw
      simp at hw
    · simp only [if_neg e] at hw
      rcases List.mem_append.mp hm with hm | hm
      · exact h2 _ (S.clos m hm i o h1 h3 h4 w hw he hlw)
      · exact absurd (by simpa using hm) e
/-- one more word of it is looked at -/
theorem Srch.word {O : List Ob} {rs F Wt Wt' ws : List Int} {n w : Int} (S : Srch O rs F Wt (some (n, ws))) (h1 : ∀ x ∈ Wt, x ∈ Wt') (h2 : ∀ x ∈ Wt', x ∈ Wt ∨ (Live O x → Reach O rs x)) (h3 : w % 2 = 0 → Live O (w / 2) → w / 2 ∈ F ∨ w / 2 ∈ Wt') : Srch O rs F Wt' (some (n, ws ++ [w])) := by
  refine ⟨S.nd, S.fr, fun m hm hl => ?_, fun w h4 h5 h6 => ?_, fun m hm i o h4 h5 h6 x hx he hl => ?_⟩
  · rcases h2 m hm with h | h
    · exact S.wr m h hl
    · exact h hl
  · exact (S.root w h4 h5 h6).imp id (h1 _)
  · have c := S.clos m hm i o h4 h5 h6
    by_cases e : m = n
    · simp only [if_pos e] at hx c
      rcases List.mem_append.mp hx with hx | hx
      · exact (c x hx he hl).imp id (h1 _)
      · have e : x = w := by simpa using hx
        subst e
        exact h3 he hl
    · simp only [if_neg e] at hx c
      exact (c x hx he hl).imp id (h1 _)
theorem Srch.all {O : List Ob} {rs F Wt : List Int} {n : Int} {i : Nat} {o : Ob} (U : ∀ (j : Nat) (p : Ob), O[j]? = some p → p.live = true → p.num = n → p = o) (S : Srch O rs F Wt (some (n, o.kind :: o.sl))) : Srch O rs F Wt none := by
  refine ⟨S.nd, S.fr, S.wr, S.root, fun m hm j p h1 h2 h3 w hw he hl => ?_⟩
  have c := S.clos m hm j p h1 h2 h3
  by_cases e : m = n
  · simp only [if_pos e] at c
    have := U j p h1 h2 (h3.trans e)
    subst this
    exact c w hw he hl
  · simp only [if_neg e] at c
    exact c w hw he hl
/-- all words at once -/
theorem Srch.words {O : List Ob} {rs F Wt : List Int} {n : Int} {i : Nat} {o : Ob} (S : Srch O rs F Wt (some (n, []))) (ho : O[i]? = some o) (hl : o.live = true) (hn : o.num = n) (hr : Reach O rs n) : Srch O rs F (Wt ++ refs (o.kind :: o.sl)) (some (n, o.kind :: o.sl)) := by
  have hh : ∀ x ∈ Wt ++ refs (o.kind :: o.sl), x ∈ Wt ∨ (Live O x → Reach O rs x) := fun x hx => by
    rcases List.mem_append.mp hx with hx | hx
    · exact Or.inl hx
    · obtain ⟨w, h1, h2, e⟩ := mem_refs.mp hx
      subst e
      exact Or.inr fun hl' => .step hr ho hl hn h1 h2 hl'
  refine ⟨S.nd, S.fr, fun m hm hl => ?_, fun w h4 h5 h6 => ?_, fun m hm j p h4 h5 h6 x hx he hlx => ?_⟩
  · rcases hh m hm with h | h
    · exact S.wr m h hl
    · exact h hl
  · exact (S.root w h4 h5 h6).imp id (List.mem_append_left _)
  · have c := S.clos m hm j p h4 h5 h6
    by_cases e : m = n
    · simp only [if_pos e] at hx
      exact Or.inr (List.mem_append_right _ (mem_refs.mpr ⟨x, hx, he, rfl⟩))
    · simp only [if_neg e] at hx c
      exact (c x hx he hlx).imp id (List.mem_append_left _)
/-- the dict of what is found -/
def dF (F : List Int) : List (Key × V) := F.map fun n => (.inl n, .bl true)
theorem dF_val (F : List Int) (m : Int) : valV (dF F) (.inl m) = if m ∈ F then some (.bl true) else none := by
  induction F with
  | nil => rfl
  | cons a r ih =>
    unfold dF at ih ⊢
    rw [List.map_cons]
    by_cases e : a = m
    · rw [valV_pos (p := (Sum.inl a, V.bl true)) (by rw [e]), if_pos (by rw [e]; exact List.mem_cons_self)]
    · rw [valV_neg (p := (Sum.inl a, V.bl true)) (fun z => e (Sum.inl.inj z)), ih]
      by_cases h : m ∈ r
      · rw [if_pos h, if_pos (List.mem_cons_of_mem _ h)]
      · rw [if_neg h, if_neg (fun z => (List.mem_cons.mp z).elim (fun z => e z.symm) h)]
theorem dF_put {F : List Int} {n : Int} (h : n ∉ F) : putK (dF F) (.inl n) (.bl true) = dF (F ++ [n]) := by
  rw [putK_new _ (by rw [dF_val, if_neg h])]
  unfold dF
  rw [List.map_append]
  rfl
/-- the size of the object of that number -/
def szf (O : List Ob) (n : Int) : Int := match O.find? fun o => o.live && decide (o.num = n) with
  | some o => 3 + (o.sl.length : Int)
  | none => 0
theorem szf_at {O : List Ob} {kvs : List (Key × V)} {least : Int} (G : Good O kvs least) {i : Nat} {o : Ob} (h : O[i]? = some o) (hl : o.live = true) : szf O o.num = 3 + (o.sl.length : Int) := by
  unfold szf
  cases e : O.find? fun p => p.live && decide (p.num = o.num) with
  | none =>
    have := List.find?_eq_none.mp e o (List.mem_of_getElem? h)
    simp [hl] at this
  | some p =>
    have h1 := List.find?_some e
    obtain ⟨j, hj⟩ := List.getElem?_of_mem (List.mem_of_find?_eq_some e)
    have h1 : p.live = true ∧ p.num = o.num := by simpa using h1
    have := G.un j i p o hj h h1.1 hl h1.2
    subst this
    rw [h] at hj
    cases hj
    rfl
theorem sum_perm {l m : List Int} (h : l.Perm m) : l.sum = m.sum := by
  induction h with
  | nil => rfl
  | cons x _ ih => rw [List.sum_cons, List.sum_cons, ih]
  | swap x y l => simp only [List.sum_cons]; omega
  | trans _ _ h1 h2 => rw [h1, h2]
theorem sorted_eq {l m : List Int} (h : l.Perm m) (hl : l.Pairwise (· ≤ ·)) (hm : m.Pairwise (· ≤ ·)) : l = m :=
  List.Perm.eq_of_pairwise (fun a b _ _ h1 h2 => Int.le_antisymm h1 h2) hl hm h
theorem perm_of {l m : List Int} (h1 : l.Nodup) (h2 : m.Nodup) (h : ∀ n, n ∈ l ↔ n ∈ m) : l.Perm m := (List.perm_ext_iff_of_nodup h1 h2).mpr h

end LX
namespace LX
open PySem PySem.Spec PyProof.Rows L2 NdefX
section
variable {P : Program} {w : World} {K : PySem.W.Frag} {mg : Str → Option Value} {base : Heap}
theorem iteNE {l : List V} {A B : Prop} (h : l ≠ []) (a : A) : if (!l.isEmpty) = true then A else B := by
  cases l with
  | nil => exact absurd rfl h
  | cons => exact iteT a
def sp_reached : Addr → Sp := fun C vs H Q _ => ∃ st dx wl pl room entries least O kvs ra, ∃ rs : List Int, vs = [.ref st, .ref ra] ∧ StoreAt H C st dx wl pl room entries least (flat O) kvs ∧ Good O kvs least ∧ (∀ o ∈ O, o.sl.length ≤ 39) ∧ O.length ≤ 80 ∧ IsI H ra rs ∧ rs.length ≤ 65 ∧
  ∀ D F H', H D = none → H' D = some (.dK (dF F)) → F.Nodup → (∀ n, n ∈ F ↔ Reach O rs n) → Fr [] H H' → Q (.ref D) H'
theorem ok_reached (W : WT P K mg base) : FnOk P w K mg base CX0 3 W.f_reached W.fd_reached ["store", "roots"] (sp_reached W.c_Store) := by
  refine W.F_reached.ok sc_reached (fun vs H Q E h => ?_) (fun cdv Ar outer s H vs Q E hr h => ?_)
  · obtain ⟨st, dx, wl, pl, room, entries, least, O, kvs, ra, rs, rfl, _⟩ := h
    rfl
  · obtain ⟨st, dx, wl, pl, room, entries, least, O, kvs, ra, rs, rfl, S, G, sz, hO, hra, hrs, k⟩ := h
    have hu1 := hu_of hr
    have hu64 := hu64_of hr
    refine ⟨_, (pss_cons (ps_set (i := 2) sc_reached.nd rfl (by first | exact Or.inl rfl | exact Or.inr rfl) pe_dnewK)
      (pss_cons (ps_setLc (i := 3) (own := [("word", 4)]) (g := gName 4)  rfl sc_reached.nd rfl rfl (sw_true rfl rfl rfl (by decide +kernel)) (pi_list (pv 1)) (blkOk_by (N := N_reached) (sc := defScope s_reached) (by decide +kernel)) (fun _ _ _ _ _ => (pg_name (i := 4) sc_reached.nd rfl (by first | exact Or.inl rfl | exact Or.inr rfl))) (fun _ _ _ _ _ => pts_one (pt_truthK (K := K) rfl (pe_call (ok_is_ref W) (hr.mono (by decide)) rfl W.g_is_ref W.F_is_ref.kp W.b_is_ref .nil pass0 (pa_cons (pv 4) pa_nil)) (by intro _; rfl))) (fun _ _ _ _ _ => (pe_call (ok_ref_of W) (hr.mono (by decide)) rfl W.g_ref_of W.F_ref_of.kp W.b_ref_of .nil pass0 (pa_cons (pv 4) pa_nil))))
      (pss_cons (ps_while PassesOwn.never (pt_truth (pv 3) (by intro _; rfl)) (pss_cons (ps_set (i := 5) sc_reached.nd rfl (by first | exact Or.inl rfl | exact Or.inr rfl) (pe_bm0 PySem.F.plainAttrs_list PySem.F.slot_list_pop PySem.F.type_list_pop mt_pop (pv 3) ))
      (pss_one (ps_if (PW.pt (pw_and (pt_cmpR (op_ninU hu1) (pv 5) (pv 2) (by first | exact nomark _ | rfl)) (pw_and1 (pt_truth (pe_meth (pv 0) W.C_Store W.m_Store_exists (ok_Store_exists W) (hr.mono (by decide)) W.b_Store_exists .nil pass0 (pa_cons (pv 5) pa_nil)) (by intro _; rfl))))) (pss_cons (ps_dput hu1 (pv 2) (pv 5) pe_bl rfl)
      (pss_one (ps_for PassesOwn.never rfl (pi_list (pe_op op_addU (pe_lst (pa_cons (pe_meth (pv 0) W.C_Store W.m_Store_kind (ok_Store_kind W) (hr.mono (by decide)) W.b_Store_kind .nil pass0 (pa_cons (pv 5) pa_nil)) pa_nil)) (pe_meth (pv 0) W.C_Store W.m_Store_slots (ok_Store_slots W) (hr.mono (by decide)) W.b_Store_slots .nil pass0 (pa_cons (pv 5) pa_nil)))) (pg_name (i := 4) sc_reached.nd rfl (by first | exact Or.inl rfl | exact Or.inr rfl)) (pss_one (ps_if (PW.pt (pw_and (pt_truth (pe_call (ok_is_ref W) (hr.mono (by decide)) rfl W.g_is_ref W.F_is_ref.kp W.b_is_ref .nil pass0 (pa_cons (pv 4) pa_nil)) (by intro _; rfl)) (pw_and1 (pt_cmpR (op_ninU hu1) (pe_call (ok_ref_of W) (hr.mono (by decide)) rfl W.g_ref_of W.F_ref_of.kp W.b_ref_of .nil pass0 (pa_cons (pv 4) pa_nil)) (pv 2) (by first | exact nomark _ | rfl))))) (pss_one (ps_expr (pe_bm PySem.F.plainAttrs_list PySem.F.slot_list_append PySem.F.type_list_append mt_append (pv 3) (pa_cons (pe_call (ok_ref_of W) (hr.mono (by decide)) rfl W.g_ref_of W.F_ref_of.kp W.b_ref_of .nil pass0 (pa_cons (pv 4) pa_nil)) pa_nil)))) pss_nil))))) pss_nil))))
      (pss_one (ps_ret (pv 2)))))), ?_⟩
    intro D hD
    have hra1 := Fr.new (F := []) (o := .dK []) hD ra _ hra (by simp)
    refine ⟨_, rfl, ra, rfl, ⟨_, SqL.of hra1⟩, fun wA hwA => ?_⟩
    have f1 : Fr [] H (upd H D (.dK [])) := Fr.new hD
    have hD1 : upd H D (.dK []) D = some (.dK []) := upd_same
    have hwA0 : H wA = none := by
      by_cases e : wA = D
      · rw [e]; exact hD
      · rw [upd_ne e] at hwA; exact hwA
    generalize upd H D (.dK []) = H1 at f1 hD1 hra1 hwA
    refine lc_list (K := K) (a := ra) (xs := rs.map V.int) (fun i H' => H' = upd H1 wA (.lst ((refs (rs.take i)).map V.int))) rfl (fun i H' _ e => ?_) (fun i x H' hx e => ?_) (fun H' e => ?_)
    · subst e
      exact SqL.of (Fr.new (F := []) (o := .lst ((refs (rs.take i)).map V.int)) hwA ra _ hra1 (by simp))
    · subst e
      rw [List.getElem?_map] at hx
      obtain ⟨n, hn, rfl⟩ := Option.map_eq_some_iff.mp hx
      have hlen : (refs (rs.take i)).length ≤ 65 := by
        have := refs_len (rs.take i)
        rw [List.length_take] at this
        omega
      refine ⟨rfl, ?_⟩
      refine ⟨_, rfl, n, rfl, ?_⟩
      refine ⟨_, rfl, ?_⟩
      refine iteD (fun he => ?_) (fun he => ?_)
      · refine ⟨_, rfl, n, rfl, he, ?_⟩
        refine ⟨_, upd_same, by rw [List.length_map, sizeLine_eq]; omega, ?_⟩
        rw [upd_upd, refs_take_yes hn he, List.map_append]; rfl
      · rw [refs_take_no hn he]
    · subst e
      rw [List.length_map, List.take_length]
      have hw2 : upd H1 wA (.lst ((refs rs).map V.int)) wA = some (.lst ((refs rs).map V.int)) := upd_same
      have f2 : Fr [] H1 (upd H1 wA (.lst ((refs rs).map V.int))) := Fr.new hwA
      have hD2 := f2 D _ hD1 (by simp)
      have f2 := f1.trans f2
      generalize upd H1 wA (.lst ((refs rs).map V.int)) = H2 at f2 hw2 hD2
      refine ⟨fun m σ H' => ∃ (F Wt : List Int) (v4 v5 : Option V), σ = [some (.ref st), some (.ref ra), some (.ref D), some (.ref wA), v4, v5] ∧ H' D = some (.dK (dF F)) ∧ H' wA = some (.lst (Wt.map V.int)) ∧ Fr [] H H' ∧ Srch O rs F Wt none ∧ m = (O.length - F.length) * 42 + Wt.length ∧ m ≤ 5000,
        ⟨_, [], refs rs, _, _, rfl, hD2, hw2, f2, Srch.start O rs, rfl, by have := refs_len rs; simp only [List.length_nil]; omega⟩, ?_⟩
      rintro m σ H3 ⟨F, Wt, v4, v5, rfl, hD3, hw3, f3, sr, rfl, hm⟩
      have S3 := S.keep f3 (by simp)
      refine ⟨_, rfl, _, Or.inl ⟨_, SqL.of hw3, rfl⟩, ?_⟩
      cases hW : Wt with
      | nil =>
        subst hW
        refine iteF ?_
        exact ⟨_, rfl, k D F H3 hD hD3 sr.nd sr.done f3⟩
      | cons y0 ys0 =>
        have hlast : ∃ n, Wt[Wt.length - 1]? = some n := ⟨_, List.getElem?_eq_getElem (by rw [hW]; simp)⟩
        rw [← hW]
        obtain ⟨n, hn⟩ := hlast
        have hne : Wt ≠ [] := by rw [hW]; simp
        have hdl := drop_last hn
        generalize hWt' : Wt.dropLast = Wt' at hdl
        have hl : Wt.length = Wt'.length + 1 := by rw [hdl, List.length_append]; rfl
        refine iteNE (by rw [hW]; simp) ?_
        refine ⟨_, fun _ _ z => z, ?_⟩
        refine ⟨_, rfl, Or.inl ⟨rfl, _, SqL.of hw3⟩, ?_⟩
        refine ⟨wA, _, .int n, rfl, rfl, hw3, by rw [List.length_map]; exact int_at hn, ?_⟩
        rw [← List.map_dropLast, hWt']
        have nDw : D ≠ wA := ne_of hD3 hw3 (by intro z; cases z)
        have hw4 : upd H3 wA (.lst (Wt'.map V.int)) wA = some (.lst (Wt'.map V.int)) := upd_same
        have hD4 : upd H3 wA (.lst (Wt'.map V.int)) D = some (.dK (dF F)) := by rw [upd_ne nDw]; exact hD3
        have f4 : Fr [] H (upd H3 wA (.lst (Wt'.map V.int))) := f3.skip hwA0
        generalize upd H3 wA (.lst (Wt'.map V.int)) = H4 at hw4 hD4 f4
        have S4 := S.keep f4 (by simp)
        rw [hdl] at sr
        refine ⟨_, rfl, _, rfl, Or.inr ⟨_, DGet.k (k := Sum.inl n) hD4, ?_⟩⟩
        rw [dF_val]
        refine ⟨_, rfl, ?_⟩
        have stop : n ∈ F ∨ ¬ Live O n → ∃ m', m' < (O.length - F.length) * 42 + Wt.length ∧ ∃ (F' Wt2 : List Int) (v4' v5' : Option V), [some (V.ref st), some (.ref ra), some (.ref D), some (.ref wA), v4, some (.int n)] = [some (V.ref st), some (.ref ra), some (.ref D), some (.ref wA), v4', v5'] ∧ H4 D = some (.dK (dF F')) ∧ H4 wA = some (.lst (Wt2.map V.int)) ∧ Fr [] H H4 ∧ Srch O rs F' Wt2 none ∧ m' = (O.length - F'.length) * 42 + Wt2.length ∧ m' ≤ 5000 := fun h =>
          ⟨(O.length - F.length) * 42 + Wt'.length, by omega, F, Wt', _, _, rfl, hD4, hw4, f4, sr.pop h, rfl, by omega⟩
        by_cases hF : n ∈ F
        · rw [if_pos hF]
          exact iteF (stop (Or.inl hF))
        rw [if_neg hF]
        refine iteT ?_
        refine ⟨_, rfl, st, dx, _, rfl, S4.st, rfl, ?_⟩
        refine ⟨_, rfl, ?_⟩
        refine ⟨st, dx, wl, pl, room, entries, least, _, kvs, n, rfl, S4, ?_⟩
        refine ⟨_, rfl, ?_⟩
        by_cases hv : (valV kvs (.inl n)).isSome = true
        · rw [hv]
          refine iteT ?_
          have hlv := (G.iff n).mp hv
          obtain ⟨i, o, ho, hlo, hon⟩ := hlv
          subst hon
          have hlv := (G.iff o.num).mp hv
          have so := sz o (List.mem_of_getElem? ho)
          have sr2 := sr.find hF hlv
          have hFl : F.length + 1 ≤ O.length := by
            have := live_len sr2.nd fun m hm => (sr2.fr m hm).live
            rw [List.length_append] at this
            exact this
          refine ⟨_, rfl, _, rfl, D, _, rfl, DPut.k (k := Sum.inl o.num) hD4 (by unfold dF; rw [List.length_map, sizeLine_eq]; omega), ?_⟩
          rw [dF_put hF]
          have hD5 : upd H4 D (.dK (dF (F ++ [o.num]))) D = some (.dK (dF (F ++ [o.num]))) := upd_same
          have hw5 : upd H4 D (.dK (dF (F ++ [o.num]))) wA = some (.lst (Wt'.map V.int)) := by rw [upd_ne nDw.symm]; exact hw4
          have f5 : Fr [] H (upd H4 D (.dK (dF (F ++ [o.num])))) := f4.skip hD
          generalize upd H4 D (.dK (dF (F ++ [o.num]))) = H5 at hD5 hw5 f5
          have S5 := S.keep f5 (by simp)
          refine ⟨_, rfl, st, dx, _, rfl, S5.st, rfl, ?_⟩
          refine ⟨_, rfl, ?_⟩
          refine ⟨st, dx, wl, pl, room, entries, least, _, kvs, o.num, off O i, o.kind, rfl, S5, G.at ho hlo, flat_kind ho, ?_⟩
          refine ⟨(by show 1 ≤ sizeLine; decide), fun l1 h1 => ?_⟩
          have g6 : Fr [] H5 (upd H5 l1 (.lst [V.int o.kind])) := Fr.new h1
          have hl1 : upd H5 l1 (.lst [V.int o.kind]) l1 = some (.lst [V.int o.kind]) := upd_same
          generalize upd H5 l1 (.lst [V.int o.kind]) = H6 at g6 hl1
          have f6 := f5.trans g6
          have S6 := S.keep f6 (by simp)
          refine ⟨_, rfl, st, dx, _, rfl, S6.st, rfl, ?_⟩
          refine ⟨_, rfl, ?_⟩
          refine ⟨st, dx, wl, pl, room, entries, least, _, kvs, o.num, off O i, o.sl.length, rfl, S6, G.at ho hlo, flat_size ho, off_lt ho, fun l2 h2 => ?_⟩
          rw [flat_slots ho]
          have g7 : Fr [] H6 (upd H6 l2 (.lst (o.sl.map V.int))) := Fr.new h2
          have hl2 : upd H6 l2 (.lst (o.sl.map V.int)) l2 = some (.lst (o.sl.map V.int)) := upd_same
          have hl1' := g7 _ _ hl1 (by simp)
          show rAddU K _ _ (upd H6 l2 (.lst (o.sl.map V.int))) _
          generalize upd H6 l2 (.lst (o.sl.map V.int)) = H7 at g7 hl2 hl1'
          have f7 := f6.trans g7
          refine Or.inl ⟨l1, l2, _, _, rfl, rfl, hl1', hl2, by rw [List.length_map, sizeLine_eq]; show 1 + o.sl.length ≤ _; omega, fun l3 h3 => ?_⟩
          have e3 : [V.int o.kind] ++ o.sl.map V.int = (o.kind :: o.sl).map V.int := rfl
          rw [e3]
          have g8 : Fr [] H7 (upd H7 l3 (.lst ((o.kind :: o.sl).map V.int))) := Fr.new h3
          have hl3 : upd H7 l3 (.lst ((o.kind :: o.sl).map V.int)) l3 = some (.lst ((o.kind :: o.sl).map V.int)) := upd_same
          have n3 : l3 ≠ wA := (ne_of_none (g7 _ _ (g6 _ _ hw5 (by simp)) (by simp)) h3).symm
          have hD8 := g8 _ _ (g7 _ _ (g6 _ _ hD5 (by simp)) (by simp)) (by simp)
          have hw8 := g8 _ _ (g7 _ _ (g6 _ _ hw5 (by simp)) (by simp)) (by simp)
          have f8 := f7.trans g8
          generalize upd H7 l3 (.lst ((o.kind :: o.sl).map V.int)) = H8 at g8 hl3 hD8 hw8 f8
          refine ⟨l3, rfl, ⟨_, SqL.of hl3⟩, ?_⟩
          refine for_list (K := K) (a := l3) (xs := (o.kind :: o.sl).map V.int) (fun j σ H' => ∃ (Wt2 : List Int) (v4 : Option V), σ = [some (.ref st), some (.ref ra), some (.ref D), some (.ref wA), v4, some (.int o.num)] ∧ H' D = some (.dK (dF (F ++ [o.num]))) ∧ H' wA = some (.lst (Wt2.map V.int)) ∧ H' l3 = some (.lst ((o.kind :: o.sl).map V.int)) ∧ Fr [] H H' ∧ Srch O rs (F ++ [o.num]) Wt2 (some (o.num, (o.kind :: o.sl).take j)) ∧ Wt2.length ≤ Wt'.length + j)
            ⟨Wt', _, rfl, hD8, hw8, hl3, f8, sr2, by omega⟩ (fun j σ H9 _ hI => ?_) (fun j x σ H9 hx hI => ?_) (fun σ H9 hI => ?_)
          · obtain ⟨Wt2, v4', rfl, a1, a2, a3, a4, a5, a6⟩ := hI
            exact SqL.of a3
          · obtain ⟨Wt2, v4', rfl, a1, a2, a3, a4, a5, a6⟩ := hI
            rw [List.getElem?_map] at hx
            obtain ⟨y, hy, rfl⟩ := Option.map_eq_some_iff.mp hx
            have hj : j < (o.kind :: o.sl).length := (List.getElem?_eq_some_iff.mp hy).1
            rw [List.length_cons] at hj
            have htk : (o.kind :: o.sl).take (j + 1) = (o.kind :: o.sl).take j ++ [y] := by rw [List.take_succ, hy]; rfl
            have hmem : y ∈ o.kind :: o.sl := List.mem_of_getElem? hy
            refine ⟨_, rfl, y, rfl, ?_⟩
            refine ⟨_, rfl, ?_⟩
            refine iteD (fun he => ?_) (fun he => ?_)
            · refine ⟨_, rfl, y, rfl, he, ?_⟩
              refine ⟨_, rfl, Or.inr ⟨_, DGet.k (k := Sum.inl (y / 2)) a1, ?_⟩⟩
              rw [dF_val]
              refine ⟨_, rfl, ?_⟩
              by_cases hy2 : y / 2 ∈ F ++ [o.num]
              · rw [if_pos hy2]
                refine iteF ⟨Wt2, _, rfl, a1, a2, a3, a4, ?_, by omega⟩
                rw [htk]
                exact a5.word (fun x h => h) (fun x h => Or.inl h) fun _ _ => Or.inl hy2
              · rw [if_neg hy2]
                refine iteT ?_
                refine ⟨_, rfl, Or.inl ⟨rfl, _, SqL.of a2⟩, ?_⟩
                refine ⟨_, rfl, y, rfl, he, ?_⟩
                refine ⟨wA, _, _, rfl, rfl, a2, by rw [List.length_map, sizeLine_eq]; omega, ?_⟩
                have e4 : Wt2.map V.int ++ [V.int (y / 2)] = (Wt2 ++ [y / 2]).map V.int := by rw [List.map_append]; rfl
                rw [e4]
                refine ⟨Wt2 ++ [y / 2], _, rfl, by rw [upd_ne nDw]; exact a1, upd_same, by rw [upd_ne n3]; exact a3, a4.skip hwA0, ?_, by rw [List.length_append]; show Wt2.length + 1 ≤ _; omega⟩
                rw [htk]
                refine a5.word (fun x h => List.mem_append_left _ h) (fun x h => ?_) fun _ _ => Or.inr (List.mem_append_right _ (by simp))
                rcases List.mem_append.mp h with h | h
                · exact Or.inl h
                · have e : x = y / 2 := by simpa using h
                  rw [e]
                  exact Or.inr fun hl => .step (sr2.fr o.num (List.mem_append_right _ (by simp))) ho hlo rfl hmem he hl
            · refine ⟨Wt2, _, rfl, a1, a2, a3, a4, ?_, by omega⟩
              rw [htk]
              exact a5.word (fun x h => h) (fun x h => Or.inl h) fun h _ => absurd h he
          · obtain ⟨Wt2, v4', rfl, a1, a2, a3, a4, a5, a6⟩ := hI
            rw [List.length_map, List.take_length] at a5
            rw [List.length_map, List.length_cons] at a6
            refine ⟨(O.length - (F ++ [o.num]).length) * 42 + Wt2.length, ?_, F ++ [o.num], Wt2, _, _, rfl, a1, a2, a4, a5.all (i := i) (fun j p h1 h2 h3 => ?_), rfl, ?_⟩
            · rw [List.length_append]; show (O.length - (F.length + 1)) * 42 + _ < _; omega
            · have := G.un j i p o h1 ho h2 hlo h3
              subst this
              rw [ho] at h1; cases h1; rfl
            · rw [List.length_append]; show (O.length - (F.length + 1)) * 42 + _ ≤ _; omega
        · have hv' : (valV kvs (.inl n)).isSome = false := by simpa using hv
          rw [hv']
          exact iteF (stop (Or.inr fun h => hv ((G.iff n).mpr h)))
end

end LX
namespace LX
open PySem PySem.Spec PyProof.Rows L2 NdefX
section
variable {P : Program} {w : World} {K : PySem.W.Frag} {mg : Str → Option Value} {base : Heap}
def DueP (O : List Ob) (rs F : List Int) : Prop := F.Nodup ∧ (∀ n, n ∈ F ↔ Reach O rs n) ∧ F.Pairwise (· ≤ ·)
def sp_due : Sp := fun vs H Q _ => ∃ rl A O kvs least ra, ∃ rs : List Int, vs = [.ref rl, .ref ra] ∧ RowAt H rl A O ∧ Good O kvs least ∧ (∀ o ∈ O, o.sl.length ≤ 39) ∧ O.length ≤ 80 ∧ IsI H ra rs ∧ rs.length ≤ 65 ∧
  ∀ D F H', H D = none → IsI H' D F → DueP O rs F → Fr [] H H' → Q (.ref D) H'
theorem firstAt {l : List Int} {n : Int} (h : n ∈ l) : ∃ j : Nat, l[j]? = some n ∧ ∀ (m : Nat) (z : Int), m < j → l[m]? = some z → z ≠ n := by
  induction l with
  | nil => simp at h
  | cons a r ih =>
    by_cases e : a = n
    · exact ⟨0, by rw [e]; rfl, fun m z hm => by omega⟩
    · obtain ⟨j, h1, h2⟩ := ih ((List.mem_cons.mp h).resolve_left fun z => e z.symm)
      refine ⟨j + 1, h1, fun m z hm hz => ?_⟩
      cases m with
      | zero => cases hz; exact e
      | succ m => exact h2 m z (by omega) hz
theorem flat_ints (l : List Int) : (l.map V.int).all flatV = true := by rw [List.all_map]; exact List.all_eq_true.mpr fun _ _ => rfl
theorem in_ints (n : Int) (l : List Int) : inV (.int n) (l.map V.int) = decide (n ∈ l) := by
  unfold inV
  rw [List.any_map]
  induction l with
  | nil => simp
  | cons a r ih =>
    rw [List.any_cons, ih]
    show ((a == n) || _) = _
    by_cases e : a = n
    · subst e; simp
    · have e' : ¬ n = a := fun z => e z.symm
      simp [e, e']
theorem ok__law_due (W : WT P K mg base) : FnOk P w K mg base CX0 2 W.f__law_due W.fd__law_due ["_law_row", "_law_roots_here"] sp_due := by
  refine W.F__law_due.ok sc__law_due (fun vs H Q E h => ?_) (fun cdv Ar outer s H vs Q E hr h => ?_)
  · obtain ⟨rl, A, O, kvs, least, ra, rs, rfl, _⟩ := h
    rfl
  · obtain ⟨rl, A, O, kvs, least, ra, rs, rfl, R, G, sz, hO, hra, hrs, k⟩ := h
    have hu1 := hu_of hr
    have hu64 := hu64_of hr
    refine ⟨_, (pss_cons (ps_set (i := 2) sc__law_due.nd rfl (by first | exact Or.inl rfl | exact Or.inr rfl) (pe_call (ok__law_living W) (hr.mono (by decide)) rfl W.g__law_living W.F__law_living.kp W.b__law_living .nil pass0 (pa_cons (pv 0) pa_nil)))
      (pss_cons (ps_setLc (i := 3) (own := [("_law_one", 4)]) (g := gName 4) (tt := tYes) rfl sc__law_due.nd rfl rfl (sw_true rfl rfl rfl (by decide +kernel)) (pi_list (pv 2)) (blkOk_by (N := N__law_due) (sc := defScope s__law_due) (by decide +kernel)) (fun _ _ _ _ _ => (pg_name (i := 4) sc__law_due.nd rfl (by first | exact Or.inl rfl | exact Or.inr rfl))) (fun _ _ _ _ _ => pts_nil) (fun _ _ _ _ _ => (pe_ix (ix_UK (K := K) rfl (by exact hu1)) (pv 4) pe_int (fun _ _ => rfl))))
      (pss_cons (ps_set (i := 5) sc__law_due.nd rfl (by first | exact Or.inl rfl | exact Or.inr rfl) (pe_lst pa_nil))
      (pss_cons (ps_setLc (i := 6) (own := [("_law_word_here", 7)]) (g := gName 7)  rfl sc__law_due.nd rfl rfl (sw_true rfl rfl rfl (by decide +kernel)) (pi_list (pv 1)) (blkOk_by (N := N__law_due) (sc := defScope s__law_due) (by decide +kernel)) (fun _ _ _ _ _ => (pg_name (i := 7) sc__law_due.nd rfl (by first | exact Or.inl rfl | exact Or.inr rfl))) (fun _ _ _ _ _ => pts_one (pt_cmpR (op_eqUK (K := K) rfl (by exact hu64)) (pe_op op_mod (pe_callTy call_intU (by rfl) W.n_int bb_int (pa_cons (pv 7) pa_nil)) pe_int) pe_int (by first | exact nomark _ | rfl))) (fun _ _ _ _ _ => (pe_op op_fdivW (pv 7) pe_int)))
      (pss_cons (ps_while PassesOwn.never (pt_truth (pv 6) (by intro _; rfl)) (pss_cons (ps_set (i := 8) sc__law_due.nd rfl (by first | exact Or.inl rfl | exact Or.inr rfl) (pe_bm0 PySem.F.plainAttrs_list PySem.F.slot_list_pop PySem.F.type_list_pop mt_pop (pv 6) ))
      (pss_one (ps_if (PW.pt (pw_and (pt_cmpR (op_inU hu1) (pv 8) (pv 3) (by first | exact nomark _ | rfl)) (pw_and1 (pt_cmpR (op_ninU hu1) (pv 8) (pv 5) (by first | exact nomark _ | rfl))))) (pss_cons (ps_expr (pe_bm PySem.F.plainAttrs_list PySem.F.slot_list_append PySem.F.type_list_append mt_append (pv 5) (pa_cons (pv 8) pa_nil)))
      (pss_cons (ps_set (i := 4) sc__law_due.nd rfl (by first | exact Or.inl rfl | exact Or.inr rfl) (pe_ix (ix_U hu1) (pv 2) (pe_bm PySem.F.plainAttrs_list PySem.F.slot_list_index PySem.F.type_list_index mt_index (pv 3) (pa_cons (pv 8) pa_nil)) (fun _ _ => rfl)))
      (pss_one (ps_expr (pe_bm PySem.F.plainAttrs_list PySem.F.slot_list_extend PySem.F.type_list_extend mt_extend (pv 6) (pa_cons (pe_lc (own := [("_law_word_here", 7)]) (g := gName 7)  rfl sc__law_due.nd (pi_list (pe_op op_addU (pe_lst (pa_cons (pe_ix (ix_U hu1) (pv 4) pe_int (fun _ _ => rfl)) pa_nil)) (pe_ix (ix_U hu1) (pv 4) pe_int (fun _ _ => rfl)))) (blkOk_by (N := N__law_due) (sc := defScope s__law_due) (by decide +kernel)) (fun _ _ _ _ _ => (pg_name (i := 7) sc__law_due.nd rfl (by first | exact Or.inl rfl | exact Or.inr rfl))) (fun _ _ _ _ _ => pts_one (pt_cmpR (op_eqUK (K := K) rfl (by exact hu64)) (pe_op op_mod (pe_callTy call_intU (by rfl) W.n_int bb_int (pa_cons (pv 7) pa_nil)) pe_int) pe_int (by first | exact nomark _ | rfl))) (fun _ _ _ _ _ => (pe_op op_fdivW (pv 7) pe_int))) pa_nil)))))) pss_nil))))
      (pss_one (ps_ret (pe_callB (call_sortedU rfl) (by rfl) W.n_sorted bb_sorted (pa_cons (pv 5) pa_nil))))))))), ?_⟩
    refine ⟨_, rfl, rl, A, O, rfl, R, by omega, fun q hq => ?_⟩
    have f1 : Fr [] H (upd H q (.lst ((Zl A O).map fun z => V.ref z.1.1))) := Fr.new hq
    have hZ : upd H q (.lst ((Zl A O).map fun z => V.ref z.1.1)) q = some (.lst ((Zl A O).map fun z => V.ref z.1.1)) := upd_same
    generalize upd H q (.lst ((Zl A O).map fun z => V.ref z.1.1)) = H1 at hZ f1
    have zl : (Zl A O).length ≤ 80 := by
      have e := congrArg List.length (Zl_snd R.len)
      rw [List.length_map] at e
      have := List.length_filter_le (fun o : Ob => o.live) O
      omega
    -- numbers
    refine ⟨_, rfl, q, rfl, ⟨_, SqL.of hZ⟩, fun nA hnA => ?_⟩
    refine lc_list (K := K) (a := q) (xs := (Zl A O).map fun z => V.ref z.1.1) (fun i H' => H' = upd H1 nA (.lst ((((Zl A O).take i).map fun z => z.2.num).map V.int))) rfl (fun i H' _ e => ?_) (fun i x H' hx e => ?_) (fun H' e => ?_)
    · subst e
      exact SqL.of (Fr.new (F := []) (o := .lst ((((Zl A O).take i).map fun z => z.2.num).map V.int)) hnA q _ hZ (by simp))
    · subst e
      rw [List.getElem?_map] at hx
      obtain ⟨z, hz, rfl⟩ := Option.map_eq_some_iff.mp hx
      obtain ⟨n, h1, h2, h3⟩ := Zl_get (List.mem_of_getElem? hz)
      have q1 := Fr.new (F := []) (o := .lst ((((Zl A O).take i).map fun z => z.2.num).map V.int)) hnA z.1.1 _ (f1 _ _ (R.it n z.1 z.2 h1 h2).1 (by simp)) (by simp)
      refine ⟨rfl, ?_⟩
      refine ⟨_, rfl, Or.inl ⟨_, _, _, rfl, Or.inl (SqL.of q1), rfl, ?_⟩⟩
      refine ⟨_, upd_same, by rw [List.length_map, List.length_map, List.length_take, sizeLine_eq]; omega, ?_⟩
      rw [upd_upd, List.take_succ, hz, List.map_append, List.map_append]
      rfl
    subst e
    rw [List.length_map, List.take_length]
    have e1 : (Zl A O).map (fun z => z.2.num) = (O.filter (·.live)).map (·.num) := by
      rw [← Zl_snd R.len, List.map_map]; rfl
    have hN : upd H1 nA (.lst (((Zl A O).map fun z => z.2.num).map V.int)) nA = some (.lst (((Zl A O).map fun z => z.2.num).map V.int)) := upd_same
    have g2 : Fr [] H1 (upd H1 nA (.lst (((Zl A O).map fun z => z.2.num).map V.int))) := Fr.new hnA
    have hZ := g2 _ _ hZ (by simp)
    have f2 := f1.trans g2
    generalize upd H1 nA (.lst (((Zl A O).map fun z => z.2.num).map V.int)) = H2 at hN g2 hZ f2
    -- found
    refine ⟨(by show 0 ≤ sizeLine; decide), fun D hD => ?_⟩
    have hD0 : H D = none := by
      cases e : H D with
      | none => rfl
      | some o => rw [f2 _ _ e (by simp)] at hD; cases hD
    have g3 : Fr [] H2 (upd H2 D (.lst [])) := Fr.new hD
    have hD3 : upd H2 D (.lst []) D = some (.lst []) := upd_same
    have nDn : D ≠ nA := (ne_of_none hN hD).symm
    have nDq : D ≠ q := (ne_of_none hZ hD).symm
    have hN := g3 _ _ hN (by simp)
    have hZ := g3 _ _ hZ (by simp)
    have f3 := f2.trans g3
    generalize upd H2 D (.lst []) = H3 at hN hZ f3 hD3
    have hra3 := f3 _ _ hra (by simp)
    -- waiting
    refine ⟨_, rfl, ra, rfl, ⟨_, SqL.of hra3⟩, fun wA hwA => ?_⟩
    refine lc_list (K := K) (a := ra) (xs := rs.map V.int) (fun i H' => H' = upd H3 wA (.lst ((refs (rs.take i)).map V.int))) rfl (fun i H' _ e => ?_) (fun i x H' hx e => ?_) (fun H' e => ?_)
    · subst e
      exact SqL.of (Fr.new (F := []) (o := .lst ((refs (rs.take i)).map V.int)) hwA ra _ hra3 (by simp))
    · subst e
      rw [List.getElem?_map] at hx
      obtain ⟨n, hn, rfl⟩ := Option.map_eq_some_iff.mp hx
      have hlen : (refs (rs.take i)).length ≤ 65 := by
        have := refs_len (rs.take i)
        rw [List.length_take] at this
        omega
      refine ⟨rfl, ?_⟩
      refine ⟨_, rfl, _, _, rfl, rfl, (by show (0 : Int) < 2; decide), rfl, _, rfl, ?_⟩
      refine ite_eq (I_dec (n % 2) 0) (iteD (fun he => ?_) (fun he => ?_))
      · refine ⟨_, rfl, _, _, rfl, rfl, ⟨by decide, by decide⟩, ?_⟩
        refine ⟨_, upd_same, by rw [List.length_map, sizeLine_eq]; omega, ?_⟩
        rw [upd_upd, refs_take_yes hn he, List.map_append]; rfl
      · rw [refs_take_no hn he]
    subst e
    rw [List.length_map, List.take_length]
    have hw4 : upd H3 wA (.lst ((refs rs).map V.int)) wA = some (.lst ((refs rs).map V.int)) := upd_same
    have g4 : Fr [] H3 (upd H3 wA (.lst ((refs rs).map V.int))) := Fr.new hwA
    have hwA0 : H wA = none := by
      cases e : H wA with
      | none => rfl
      | some o => rw [f3 _ _ e (by simp)] at hwA; cases hwA
    have nwn : wA ≠ nA := (ne_of_none hN hwA).symm
    have nwq : wA ≠ q := (ne_of_none hZ hwA).symm
    have nwD : wA ≠ D := (ne_of_none hD3 hwA).symm
    have hD4 := g4 _ _ hD3 (by simp)
    have hN := g4 _ _ hN (by simp)
    have hZ := g4 _ _ hZ (by simp)
    have f4 := f3.trans g4
    generalize upd H3 wA (.lst ((refs rs).map V.int)) = H4 at hw4 hN hZ f4 hD4
    have nums : ∀ n : Int, n ∈ (Zl A O).map (fun z => z.2.num) ↔ Live O n := fun n => by
      rw [e1]
      constructor
      · intro h
        obtain ⟨o, ho, e⟩ := List.mem_map.mp h
        obtain ⟨h1, h2⟩ := List.mem_filter.mp ho
        obtain ⟨i, hi⟩ := List.getElem?_of_mem h1
        exact ⟨i, o, hi, h2, e⟩
      · rintro ⟨i, o, h1, h2, h3⟩
        exact List.mem_map.mpr ⟨o, List.mem_filter.mpr ⟨List.mem_of_getElem? h1, h2⟩, h3⟩
    refine ⟨fun m σ H' => ∃ (F Wt : List Int) (v4 v8 : Option V), σ = [some (.ref rl), some (.ref ra), some (.ref q), some (.ref nA), v4, some (.ref D), some (.ref wA), none, v8] ∧ H' D = some (.lst (F.map V.int)) ∧ H' wA = some (.lst (Wt.map V.int)) ∧ H' nA = some (.lst (((Zl A O).map fun z => z.2.num).map V.int)) ∧ H' q = some (.lst ((Zl A O).map fun z => V.ref z.1.1)) ∧ Fr [] H H' ∧ Srch O rs F Wt none ∧ m = (O.length - F.length) * 42 + Wt.length ∧ m ≤ 5000,
      ⟨_, [], refs rs, _, _, rfl, hD4, hw4, hN, hZ, f4, Srch.start O rs, rfl, by have := refs_len rs; simp only [List.length_nil]; omega⟩, ?_⟩
    rintro m σ H5 ⟨F, Wt, v4, v8, rfl, hD, hw, hN, hZ, f, sr, rfl, hm⟩
    refine ⟨_, rfl, _, Or.inl ⟨_, SqL.of hw, rfl⟩, ?_⟩
    cases hW : Wt with
    | nil =>
      subst hW
      refine iteF ?_
      refine ⟨_, rfl, _, _, rfl, Or.inl (SqL.of hD), fun ns' p pm ps hp => ?_⟩
      have f6 := f.trans (Fr.new (o := .lst (ns'.map V.int)) hp)
      have hp0 : H p = none := by
        cases e : H p with
        | none => rfl
        | some o => rw [f _ _ e (by simp)] at hp; cases hp
      exact k p ns' _ hp0 upd_same ⟨pm.nodup_iff.mpr sr.nd, fun n => pm.mem_iff.trans (sr.done n), ps⟩ f6
    | cons y0 ys0 =>
      have hlast : ∃ n, Wt[Wt.length - 1]? = some n := ⟨_, List.getElem?_eq_getElem (by rw [hW]; simp)⟩
      rw [← hW]
      obtain ⟨n, hn⟩ := hlast
      have hne : Wt ≠ [] := by rw [hW]; simp
      have hdl := drop_last hn
      generalize hWt' : Wt.dropLast = Wt' at hdl
      have hl : Wt.length = Wt'.length + 1 := by rw [hdl, List.length_append]; rfl
      refine iteNE (by rw [hW]; simp) ?_
      refine ⟨_, fun _ _ z => z, ?_⟩
      refine ⟨_, rfl, Or.inl ⟨rfl, _, SqL.of hw⟩, ?_⟩
      refine ⟨wA, _, .int n, rfl, rfl, hw, by rw [List.length_map]; exact int_at hn, ?_⟩
      rw [← List.map_dropLast, hWt']
      have hw6 : upd H5 wA (.lst (Wt'.map V.int)) wA = some (.lst (Wt'.map V.int)) := upd_same
      have hD6 : upd H5 wA (.lst (Wt'.map V.int)) D = some (.lst (F.map V.int)) := by rw [upd_ne nwD.symm]; exact hD
      have hN6 : upd H5 wA (.lst (Wt'.map V.int)) nA = some (.lst (((Zl A O).map fun z => z.2.num).map V.int)) := by rw [upd_ne nwn.symm]; exact hN
      have hZ6 : upd H5 wA (.lst (Wt'.map V.int)) q = some (.lst ((Zl A O).map fun z => V.ref z.1.1)) := by rw [upd_ne nwq.symm]; exact hZ
      have f6 : Fr [] H (upd H5 wA (.lst (Wt'.map V.int))) := f.skip hwA0
      generalize upd H5 wA (.lst (Wt'.map V.int)) = H6 at hw6 hD6 hN6 hZ6 f6
      rw [hdl] at sr
      have stop : n ∈ F ∨ ¬ Live O n → ∃ m', m' < (O.length - F.length) * 42 + Wt.length ∧ ∃ (F' Wt2 : List Int) (v4' v8' : Option V), [some (V.ref rl), some (.ref ra), some (.ref q), some (.ref nA), v4, some (.ref D), some (.ref wA), none, some (.int n)] = [some (V.ref rl), some (.ref ra), some (.ref q), some (.ref nA), v4', some (.ref D), some (.ref wA), none, v8'] ∧ H6 D = some (.lst (F'.map V.int)) ∧ H6 wA = some (.lst (Wt2.map V.int)) ∧ H6 nA = some (.lst (((Zl A O).map fun z => z.2.num).map V.int)) ∧ H6 q = some (.lst ((Zl A O).map fun z => V.ref z.1.1)) ∧ Fr [] H H6 ∧ Srch O rs F' Wt2 none ∧ m' = (O.length - F'.length) * 42 + Wt2.length ∧ m' ≤ 5000 := fun h =>
        ⟨(O.length - F.length) * 42 + Wt'.length, by omega, F, Wt', _, _, rfl, hD6, hw6, hN6, hZ6, f6, sr.pop h, rfl, by omega⟩
      refine ⟨_, rfl, _, rfl, Or.inl ⟨_, Or.inl (SqL.of hN6), rfl, flat_ints _, ?_⟩⟩
      rw [in_ints]
      refine ⟨_, rfl, ?_⟩
      refine iteD (fun hin => ?_) (fun hin => stop (Or.inr fun h => hin ((nums n).mpr h)))
      have hlv := (nums n).mp hin
      refine ⟨_, rfl, _, rfl, Or.inl ⟨_, Or.inl (SqL.of hD6), rfl, flat_ints _, ?_⟩⟩
      rw [in_ints]
      refine ⟨_, rfl, ?_⟩
      refine iteND (fun hF => ?_) (fun hF => stop (Or.inl hF))
      have sr2 := sr.find hF hlv
      have hFl : F.length + 1 ≤ O.length := by
        have := live_len sr2.nd fun m hm => (sr2.fr m hm).live
        rw [List.length_append] at this
        exact this
      refine ⟨_, rfl, Or.inl ⟨rfl, _, SqL.of hD6⟩, ?_⟩
      refine ⟨_, rfl, D, _, _, rfl, rfl, hD6, by rw [List.length_map, sizeLine_eq]; omega, ?_⟩
      have e4 : F.map V.int ++ [V.int n] = (F ++ [n]).map V.int := by rw [List.map_append]; rfl
      rw [e4]
      have hD7 : upd H6 D (.lst ((F ++ [n]).map V.int)) D = some (.lst ((F ++ [n]).map V.int)) := upd_same
      have hw7 : upd H6 D (.lst ((F ++ [n]).map V.int)) wA = some (.lst (Wt'.map V.int)) := by rw [upd_ne nwD]; exact hw6
      have hN7 : upd H6 D (.lst ((F ++ [n]).map V.int)) nA = some (.lst (((Zl A O).map fun z => z.2.num).map V.int)) := by rw [upd_ne nDn.symm]; exact hN6
      have hZ7 : upd H6 D (.lst ((F ++ [n]).map V.int)) q = some (.lst ((Zl A O).map fun z => V.ref z.1.1)) := by rw [upd_ne nDq.symm]; exact hZ6
      have f7 : Fr [] H (upd H6 D (.lst ((F ++ [n]).map V.int))) := f6.skip hD0
      generalize upd H6 D (.lst ((F ++ [n]).map V.int)) = H7 at hw7 hD7 hN7 hZ7 f7
      obtain ⟨j, hj, hj2⟩ := firstAt hin
      refine ⟨_, rfl, _, rfl, Or.inl ⟨rfl, _, SqL.of hN7⟩, _, rfl, ?_⟩
      refine ⟨nA, _, .int n, j, .int n, rfl, rfl, SqL.of hN7, rfl, flat_ints _, int_at hj, (by show (n == n) = true; simp), fun m z' hm hz' => ?_, ?_⟩
      · rw [List.getElem?_map] at hz'
        obtain ⟨y, hy, rfl⟩ := Option.map_eq_some_iff.mp hz'
        have := hj2 m y hm hy
        show (y == n) = false
        simpa using this
      rw [List.getElem?_map] at hj
      obtain ⟨z, hz, hzn⟩ := Option.map_eq_some_iff.mp hj
      obtain ⟨i, ha, ho, hlo⟩ := Zl_get (List.mem_of_getElem? hz)
      obtain ⟨a, o⟩ := z
      have hzn : o.num = n := hzn
      have ha : A[i]? = some a := ha
      have ho : O[i]? = some o := ho
      have so := sz o (List.mem_of_getElem? ho)
      refine Or.inl ⟨_, _, _, rfl, Or.inl (SqL.of hZ7), atI_nat (by rw [List.getElem?_map, hz]; rfl), ?_⟩
      obtain ⟨q1, q2⟩ := (R.mono f7).it i a o ha ho
      refine ⟨_, rfl, Or.inl ⟨rfl, _, SqL.of hw7⟩, ?_⟩
      refine ⟨_, rfl, Or.inl ⟨_, _, _, rfl, Or.inl (SqL.of q1), rfl, ?_⟩⟩
      refine ⟨(by show 1 ≤ sizeLine; decide), fun l1 h1 => ?_⟩
      have g8 : Fr [] H7 (upd H7 l1 (.lst [V.int o.kind])) := Fr.new h1
      have hl1 : upd H7 l1 (.lst [V.int o.kind]) l1 = some (.lst [V.int o.kind]) := upd_same
      generalize upd H7 l1 (.lst [V.int o.kind]) = H8 at g8 hl1
      have q1 := g8 _ _ q1 (by simp)
      have q2 := g8 _ _ q2 (by simp)
      refine ⟨_, rfl, Or.inl ⟨_, _, _, rfl, Or.inl (SqL.of q1), rfl, ?_⟩⟩
      refine Or.inl ⟨l1, a.2, _, _, rfl, rfl, hl1, q2, by rw [List.length_map, sizeLine_eq]; show 1 + o.sl.length ≤ _; omega, fun l3 h3 => ?_⟩
      have e3 : [V.int o.kind] ++ o.sl.map V.int = (o.kind :: o.sl).map V.int := rfl
      rw [e3]
      have g9 : Fr [] H8 (upd H8 l3 (.lst ((o.kind :: o.sl).map V.int))) := Fr.new h3
      have hl3 : upd H8 l3 (.lst ((o.kind :: o.sl).map V.int)) l3 = some (.lst ((o.kind :: o.sl).map V.int)) := upd_same
      generalize upd H8 l3 (.lst ((o.kind :: o.sl).map V.int)) = H9 at g9 hl3
      have g9 := g8.trans g9
      refine ⟨l3, rfl, ⟨_, SqL.of hl3⟩, fun C hC => ?_⟩
      refine lc_list (K := K) (a := l3) (xs := (o.kind :: o.sl).map V.int) (fun i H' => H' = upd H9 C (.lst ((refs ((o.kind :: o.sl).take i)).map V.int))) rfl (fun i H' _ e => ?_) (fun i x H' hx e => ?_) (fun H' e => ?_)
      · subst e
        exact SqL.of (Fr.new (F := []) (o := .lst ((refs ((o.kind :: o.sl).take i)).map V.int)) hC l3 _ hl3 (by simp))
      · subst e
        rw [List.getElem?_map] at hx
        obtain ⟨y, hy, rfl⟩ := Option.map_eq_some_iff.mp hx
        have hlen : (refs ((o.kind :: o.sl).take i)).length ≤ 65 := by
          have := refs_len ((o.kind :: o.sl).take i)
          rw [List.length_take, List.length_cons] at this
          omega
        refine ⟨rfl, ?_⟩
        refine ⟨_, rfl, _, _, rfl, rfl, (by show (0 : Int) < 2; decide), rfl, _, rfl, ?_⟩
        refine ite_eq (I_dec (y % 2) 0) (iteD (fun he => ?_) (fun he => ?_))
        · refine ⟨_, rfl, _, _, rfl, rfl, ⟨by decide, by decide⟩, ?_⟩
          refine ⟨_, upd_same, by rw [List.length_map, sizeLine_eq]; omega, ?_⟩
          rw [upd_upd, refs_take_yes hy he, List.map_append]; rfl
        · rw [refs_take_no hy he]
      subst e
      rw [List.length_map, List.take_length]
      have hC10 : upd H9 C (.lst ((refs (o.kind :: o.sl)).map V.int)) C = some (.lst ((refs (o.kind :: o.sl)).map V.int)) := upd_same
      have g10 : Fr [] H9 (upd H9 C (.lst ((refs (o.kind :: o.sl)).map V.int))) := Fr.new hC
      have g10 := g9.trans g10
      generalize upd H9 C (.lst ((refs (o.kind :: o.sl)).map V.int)) = H10 at g10 hC10
      have rl1 := refs_len (o.kind :: o.sl)
      rw [List.length_cons] at rl1
      refine ⟨wA, C, _, _, rfl, rfl, g10 _ _ hw7 (by simp), hC10, by rw [List.length_map, List.length_map, sizeLine_eq]; omega, ?_⟩
      have e5 : Wt'.map V.int ++ (refs (o.kind :: o.sl)).map V.int = (Wt' ++ refs (o.kind :: o.sl)).map V.int := by rw [List.map_append]
      rw [e5]
      have hre : Reach O rs n := sr2.fr n (List.mem_append_right _ (by simp))
      refine ⟨(O.length - (F ++ [n]).length) * 42 + (Wt' ++ refs (o.kind :: o.sl)).length, ?_, F ++ [n], Wt' ++ refs (o.kind :: o.sl), _, _, rfl, ?_, upd_same, ?_, ?_, (f7.trans g10).skip hwA0, ((sr2.words ho hlo hzn hre).all (i := i) fun j p h1 h2 h3 => ?_), rfl, ?_⟩
      · simp only [List.length_append, List.length_singleton]; omega
      · rw [upd_ne nwD.symm]; exact g10 _ _ hD7 (by simp)
      · rw [upd_ne nwn.symm]; exact g10 _ _ hN7 (by simp)
      · rw [upd_ne nwq.symm]; exact g10 _ _ hZ7 (by simp)
      · have := G.un j i p o h1 ho h2 hlo (by rw [h3, hzn])
        subst this
        rw [ho] at h1; cases h1; rfl
      · simp only [List.length_append, List.length_singleton]; omega
end

end LX
namespace LX
open PySem PySem.Spec PyProof.Rows L2 NdefX
/-! ### closing up, plainly -/
def lvF : Nat → List Ob → List (Ob × Nat)
  | _, [] => []
  | p, a :: r => if a.live = true then (a, p) :: lvF (p + (fl a).length) r else lvF (p + (fl a).length) r
theorem lvF_cons (p : Nat) (a : Ob) (r : List Ob) : lvF p (a :: r) = if a.live = true then (a, p) :: lvF (p + (fl a).length) r else lvF (p + (fl a).length) r := rfl
theorem lvF_ob : ∀ (p : Nat) (O : List Ob), (lvF p O).map (·.1) = O.filter (·.live)
  | _, [] => rfl
  | p, a :: r => by
    have ih := lvF_ob (p + (fl a).length) r
    rw [lvF_cons]
    by_cases h : a.live = true
    · rw [if_pos h, List.map_cons, ih, List.filter_cons_of_pos (by exact h)]
    · rw [if_neg h, ih, List.filter_cons_of_neg (by exact h)]
theorem off_cons (a : Ob) (r : List Ob) (i : Nat) : off (a :: r) (i + 1) = (fl a).length + off r i := by
  unfold off
  rw [List.take_succ_cons, flat_cons, List.length_append]
theorem lvF_mem : ∀ (p : Nat) (O : List Ob) (z : Ob × Nat), z ∈ lvF p O ↔ ∃ i : Nat, O[i]? = some z.1 ∧ z.1.live = true ∧ z.2 = p + off O i
  | p, [], z => by simp [lvF]
  | p, a :: r, z => by
    have ih := lvF_mem (p + (fl a).length) r z
    have tail : (∃ i : Nat, r[i]? = some z.1 ∧ z.1.live = true ∧ z.2 = p + (fl a).length + off r i) ↔ ∃ i : Nat, (a :: r)[i + 1]? = some z.1 ∧ z.1.live = true ∧ z.2 = p + off (a :: r) (i + 1) := by
      constructor
      · rintro ⟨i, h1, h2, h3⟩
        exact ⟨i, h1, h2, by rw [off_cons, h3]; omega⟩
      · rintro ⟨i, h1, h2, h3⟩
        exact ⟨i, h1, h2, by rw [h3, off_cons]; omega⟩
    have all : (∃ i : Nat, (a :: r)[i]? = some z.1 ∧ z.1.live = true ∧ z.2 = p + off (a :: r) i) ↔ (a = z.1 ∧ z.1.live = true ∧ z.2 = p) ∨ ∃ i : Nat, (a :: r)[i + 1]? = some z.1 ∧ z.1.live = true ∧ z.2 = p + off (a :: r) (i + 1) := by
      constructor
      · rintro ⟨i, h1, h2, h3⟩
        cases i with
        | zero => exact Or.inl ⟨Option.some.inj h1, h2, by rw [h3]; rfl⟩
        | succ i => exact Or.inr ⟨i, h1, h2, h3⟩
      · rintro (⟨h1, h2, h3⟩ | ⟨i, h1, h2, h3⟩)
        · exact ⟨0, congrArg some h1, h2, by rw [h3]; rfl⟩
        · exact ⟨i + 1, h1, h2, h3⟩
    rw [all, ← tail, ← ih]
    rw [lvF_cons]
    by_cases h : a.live = true
    · rw [if_pos h, List.mem_cons]
      constructor
      · rintro (e | e)
        · subst e; exact Or.inl ⟨rfl, h, rfl⟩
        · exact Or.inr e
      · rintro (⟨h1, h2, h3⟩ | e)
        · left
          obtain ⟨z1, z2⟩ := z
          have h1 : a = z1 := h1
          have h3 : z2 = p := h3
          rw [h1, h3]
        · exact Or.inr e
    · rw [if_neg h]
      constructor
      · exact Or.inr
      · rintro (⟨h1, h2, h3⟩ | e)
        · rw [h1] at h; exact absurd h2 h
        · exact e
theorem lvF_lt : ∀ (p : Nat) (O : List Ob), (lvF p O).Pairwise (fun x y => x.2 < y.2) ∧ ∀ z ∈ lvF p O, p ≤ z.2
  | _, [] => ⟨List.Pairwise.nil, fun z h => by simp [lvF] at h⟩
  | p, a :: r => by
    obtain ⟨h1, h2⟩ := lvF_lt (p + (fl a).length) r
    have hl := fl_len a
    rw [lvF_cons]
    by_cases h : a.live = true
    · rw [if_pos h]
      refine ⟨List.pairwise_cons.mpr ⟨fun z hz => ?_, h1⟩, fun z hz => ?_⟩
      · have := h2 z hz
        show p < z.2
        omega
      · rcases List.mem_cons.mp hz with e | hz
        · rw [e]; exact Nat.le_refl _
        · have := h2 z hz
          omega
    · rw [if_neg h]
      exact ⟨h1, fun z hz => by have := h2 z hz; omega⟩
theorem lvF_app : ∀ (p : Nat) (A B : List Ob), lvF p (A ++ B) = lvF p A ++ lvF (p + (flat A).length) B
  | p, [], B => by simp [lvF, flat]
  | p, a :: r, B => by
    have ih := lvF_app (p + (fl a).length) r B
    rw [List.cons_append, lvF_cons, lvF_cons, ih, flat_cons, List.length_append, Nat.add_assoc]
    split <;> rfl
def tbl (O : List Ob) : List (Int × Int) := (lvF 0 O).map fun z => (z.1.num, (z.2 : Int))
theorem tbl_fst (O : List Ob) : (tbl O).map (·.1) = (O.filter (·.live)).map (·.num) := by
  unfold tbl
  rw [← lvF_ob 0 O, List.map_map, List.map_map]; rfl
theorem tbl_mem (O : List Ob) (n p : Int) : (n, p) ∈ tbl O ↔ ∃ (i : Nat) (o : Ob), O[i]? = some o ∧ o.live = true ∧ n = o.num ∧ p = (off O i : Nat) := by
  unfold tbl
  constructor
  · intro h
    obtain ⟨z, hz, e⟩ := List.mem_map.mp h
    obtain ⟨i, h1, h2, h3⟩ := (lvF_mem 0 O z).mp hz
    cases e
    exact ⟨i, z.1, h1, h2, rfl, by rw [h3, Nat.zero_add]⟩
  · rintro ⟨i, o, h1, h2, rfl, rfl⟩
    exact List.mem_map.mpr ⟨(o, off O i), (lvF_mem 0 O _).mpr ⟨i, h1, h2, by rw [Nat.zero_add]⟩, rfl⟩
theorem tbl_lt (O : List Ob) : (tbl O).Pairwise (fun x y => x.2 < y.2) := by
  unfold tbl
  exact List.pairwise_map.mpr ((lvF_lt 0 O).1.imp fun h => by show ((_ : Nat) : Int) < ((_ : Nat) : Int); omega)
theorem tbl_snoc (A : List Ob) (a : Ob) (h : a.live = true) : tbl (A ++ [a]) = tbl A ++ [(a.num, ((flat A).length : Int))] := by
  unfold tbl
  rw [lvF_app, List.map_append]
  congr 1
  show (lvF (0 + (flat A).length) [a]).map _ = _
  rw [lvF_cons, if_pos h, Nat.zero_add]
  rfl
theorem pw_inj {l : List (Int × Int)} (h : l.Pairwise (fun x y => x.2 < y.2)) {a b : Int × Int} (ha : a ∈ l) (hb : b ∈ l) (e : a.2 = b.2) : a = b := by
  induction l with
  | nil => simp at ha
  | cons x r ih =>
    obtain ⟨h1, h2⟩ := List.pairwise_cons.mp h
    rcases List.mem_cons.mp ha with ea | ea <;> rcases List.mem_cons.mp hb with eb | eb
    · rw [ea, eb]
    · have := h1 b eb; rw [← ea] at this; omega
    · have := h1 a ea; rw [← eb] at this; omega
    · exact ih h2 ea eb
theorem by_place {O : List Ob} {ys : List (Int × Int)} (h : ys.Perm (tbl O)) (hp : ys.Pairwise (fun x y => x.2 ≤ y.2)) : ys = tbl O :=
  List.Perm.eq_of_pairwise (le := fun x y : Int × Int => x.2 ≤ y.2) (fun a b ha hb h1 h2 => pw_inj (tbl_lt O) (h.mem_iff.mp ha) hb (by omega)) hp ((tbl_lt O).imp fun h => by omega) h
theorem mem_valV {κ : Type} [DecidableEq κ] {kvs : List (κ × V)} {k : κ} {v : V} (nd : (kvs.map (·.1)).Nodup) (h : (k, v) ∈ kvs) : valV kvs k = some v := by
  induction kvs with
  | nil => simp at h
  | cons p r ih =>
    obtain ⟨h1, h2⟩ := List.nodup_cons.mp nd
    rcases List.mem_cons.mp h with e | e
    · subst e; exact valV_pos rfl
    · rw [valV_neg (fun z => h1 (by show p.1 ∈ _; rw [z]; exact List.mem_map.mpr ⟨_, e, rfl⟩))]
      exact ih h2 e
theorem pD_of {l : List (Key × V)} (h : ∀ p ∈ l, ∃ n i : Int, p = (.inl n, .int i)) : ∃ ps, l = pD ps := by
  induction l with
  | nil => exact ⟨[], rfl⟩
  | cons a r ih =>
    obtain ⟨n, i, e⟩ := h a List.mem_cons_self
    obtain ⟨ps, e2⟩ := ih fun p hp => h p (List.mem_cons_of_mem _ hp)
    exact ⟨(n, i) :: ps, by rw [e, e2]; rfl⟩
theorem pD_keys (ps : List (Int × Int)) : (pD ps).map (·.1) = (ps.map (·.1)).map Sum.inl := by unfold pD; rw [List.map_map, List.map_map]; rfl
theorem pD_nd {ps : List (Int × Int)} : ((pD ps).map (·.1)).Nodup ↔ (ps.map (·.1)).Nodup := by
  rw [pD_keys]
  constructor
  · exact fun h => (List.pairwise_map.mp h).imp fun h e => h (by rw [e])
  · exact fun h => List.pairwise_map.mpr (h.imp fun h e => h (Sum.inl.inj e))
theorem pD_iff {ps : List (Int × Int)} (nd : (ps.map (·.1)).Nodup) (k : Key) (v : V) : valV (pD ps) k = some v ↔ ∃ n i : Int, (n, i) ∈ ps ∧ k = .inl n ∧ v = .int i := by
  constructor
  · intro h
    obtain ⟨p, hp, e⟩ := List.mem_map.mp (show (k, v) ∈ ps.map _ from val_mem h)
    cases e
    exact ⟨p.1, p.2, hp, rfl, rfl⟩
  · rintro ⟨n, i, h, rfl, rfl⟩
    exact pD_val nd h
theorem Good.pairs {O : List Ob} {kvs : List (Key × V)} {least : Int} (G : Good O kvs least) : ∃ ps, kvs = pD ps ∧ (ps.map (·.1)).Nodup ∧ ps.Perm (tbl O) := by
  obtain ⟨ps, rfl⟩ := pD_of (l := kvs) fun p hp => by
    obtain ⟨i, o, h1, h2, h3, h4⟩ := (G.val p.1 p.2).mp (mem_valV G.nd hp)
    exact ⟨o.num, (off O i : Nat), by rw [← h3, ← h4]⟩
  have nd := pD_nd.mp G.nd
  refine ⟨ps, rfl, nd, ?_⟩
  have n1 : ps.Nodup := (List.pairwise_map.mp nd).imp fun h e => h (by rw [e])
  have n2 : (tbl O).Nodup := (tbl_lt O).imp fun h e => by rw [e] at h; omega
  refine (List.perm_ext_iff_of_nodup n1 n2).mpr fun z => ?_
  obtain ⟨n, p⟩ := z
  rw [tbl_mem]
  constructor
  · intro h
    obtain ⟨i, o, h1, h2, h3, h4⟩ := (G.val _ _).mp (pD_val nd h)
    exact ⟨i, o, h1, h2, Sum.inl.inj h3, V.int.inj h4⟩
  · rintro ⟨i, o, h1, h2, rfl, rfl⟩
    obtain ⟨n, i, h, e1, e2⟩ := (pD_iff nd _ _).mp (G.at h1 h2)
    cases e1
    cases e2
    exact h
theorem Good.nums {O : List Ob} {kvs : List (Key × V)} {least : Int} (G : Good O kvs least) : ((O.filter (·.live)).map (·.num)).Nodup := by
  obtain ⟨ms, m1, m2⟩ := G.ints
  have ndm : ms.Nodup := by
    have := G.nd
    rw [m1] at this
    exact (List.pairwise_map.mp this).imp fun h e => h (by rw [e])
  exact m2.nodup_iff.mp ndm
theorem all_live {O : List Ob} : ∀ o ∈ O.filter (·.live), o.live = true := fun o ho => (List.mem_filter.mp ho).2
theorem Good.close {O : List Ob} {kvs : List (Key × V)} {least : Int} (G : Good O kvs least) : Good (O.filter (·.live)) (pD (tbl (O.filter (·.live)))) least := by
  have e1 : (tbl (O.filter (·.live))).map (·.1) = (O.filter (·.live)).map (·.num) := by rw [tbl_fst, List.filter_filter]; simp
  have nd : ((tbl (O.filter (·.live))).map (·.1)).Nodup := by rw [e1]; exact G.nums
  refine ⟨fun k v => ?_, pD_nd.mpr nd, fun i j o p hi hj _ _ e => ?_, G.seen.1, fun n h0 h1 => ?_⟩
  · rw [pD_iff nd]
    constructor
    · rintro ⟨n, i, h, rfl, rfl⟩
      obtain ⟨j, o, h1, h2, rfl, rfl⟩ := (tbl_mem _ _ _).mp h
      exact ⟨j, o, h1, h2, rfl, rfl⟩
    · rintro ⟨j, o, h1, h2, rfl, rfl⟩
      exact ⟨_, _, (tbl_mem _ _ _).mpr ⟨j, o, h1, h2, rfl, rfl⟩, rfl, rfl⟩
  · have hl := (List.getElem?_eq_some_iff.mp hi).1
    refine (List.getElem?_inj (l := (O.filter (·.live)).map (·.num)) (by rw [List.length_map]; exact hl) G.nums).mp ?_
    rw [List.getElem?_map, List.getElem?_map, hi, hj, Option.map_some, Option.map_some, e]
  · have := G.seen.2 n h0 h1
    obtain ⟨i, o, h2, h3, rfl⟩ := (G.iff n).mp this
    have hm : o ∈ O.filter (·.live) := List.mem_filter.mpr ⟨List.mem_of_getElem? h2, h3⟩
    obtain ⟨j, hj⟩ := List.getElem?_of_mem hm
    rw [(pD_iff nd _ _).mpr ⟨o.num, _, (tbl_mem _ _ _).mpr ⟨j, o, hj, h3, rfl, rfl⟩, rfl, rfl⟩]
    rfl
/-- one is dropped -/
theorem kill_filter {O : List Ob} {kvs : List (Key × V)} {least : Int} (G : Good O kvs least) {i : Nat} {o : Ob} (h : O[i]? = some o) (ho : o.live = true) : (O.set i { o with live := false }).filter (·.live) = (O.filter (·.live)).filter fun p => !decide (p.num = o.num) := by
  have hi := (List.getElem?_eq_some_iff.mp h).1
  have e : O = O.take i ++ o :: O.drop (i + 1) := split_at h
  rw [List.set_eq_take_append_cons_drop, if_pos hi]
  have key : ∀ j p, O[j]? = some p → j ≠ i → p.live = true → ¬ p.num = o.num := fun j p hj ne lp en => ne (G.un j i p o hj h lp ho en)
  have k1 : (O.take i).filter (·.live) = ((O.take i).filter (·.live)).filter fun p => !decide (p.num = o.num) := by
    refine (List.filter_eq_self.mpr fun p hp => ?_).symm
    obtain ⟨h1, h2⟩ := List.mem_filter.mp hp
    obtain ⟨j, hj⟩ := List.getElem?_of_mem h1
    rw [List.getElem?_take] at hj
    split at hj
    · simp [key j p hj (by omega) h2]
    · cases hj
  have k2 : (O.drop (i + 1)).filter (·.live) = ((O.drop (i + 1)).filter (·.live)).filter fun p => !decide (p.num = o.num) := by
    refine (List.filter_eq_self.mpr fun p hp => ?_).symm
    obtain ⟨h1, h2⟩ := List.mem_filter.mp hp
    obtain ⟨j, hj⟩ := List.getElem?_of_mem h1
    rw [List.getElem?_drop] at hj
    simp [key _ p hj (by omega) h2]
  conv => rhs; rw [e]
  rw [List.filter_append, List.filter_append, List.filter_append, List.filter_cons_of_neg (by simp), List.filter_cons_of_pos (by exact ho), List.filter_cons_of_neg (by simp), ← k1, ← k2]

end LX
namespace LX
open PySem PySem.Spec PyProof.Rows L2 NdefX
open LamX in
/-- every old thing outside of F is kept, but for tables -/
def FrN (F : List Addr) (H H' : Hp) : Prop := ∀ b o, H b = some o → b ∉ F → (∀ ps, o ≠ .tbl ps) → H' b = some o
theorem Fr.n {F : List Addr} {H H' : Hp} (f : Fr F H H') : FrN F H H' := fun b o e n _ => f b o e n
theorem FrN.trans {F : List Addr} {H H1 H2 : Hp} (a : FrN F H H1) (b : FrN F H1 H2) : FrN F H H2 := fun c o e n t => b c o (a c o e n t) n t
theorem FrN.mono {F G : List Addr} {H H' : Hp} (a : FrN F H H') (h : ∀ b, b ∈ F → b ∈ G) : FrN G H H' := fun c o e n t => a c o e (fun m => n (h c m)) t
theorem FrN.lst {F : List Addr} {H H' : Hp} (a : FrN F H H') {b : Addr} {xs : List V} (e : H b = some (.lst xs)) (n : b ∉ F) : H' b = some (.lst xs) := a b _ e n (by intro ps z; cases z)
theorem tab_out {F : List Addr} {H H' : Hp} {P : Addr} {q : Str} (t : LamX.TabS H P q) (f : Fr F H H') (hF : ∀ b ∈ F, ∃ o, H b = some o ∧ (∀ ps, o ≠ .tbl ps) ∧ (∀ φ, o ≠ .ext φ)) : LamX.TabS H' P q := by
  obtain ⟨ps, h1, h2, h3⟩ := t
  refine ⟨ps, f _ _ h1 fun hm => ?_, h2, fun pos cv hc => ?_⟩
  · obtain ⟨o, e, n, _⟩ := hF _ hm
    rw [h1] at e
    exact n ps (Option.some.inj e).symm
  · obtain ⟨c, e1, e2⟩ := h3 pos cv hc
    refine ⟨c, e1, f _ _ e2 fun hm => ?_⟩
    obtain ⟨o, e, _, n⟩ := hF _ hm
    rw [e2] at e
    exact n _ (Option.some.inj e).symm
theorem StoreAt.keepN {H H' : Hp} {C st dx wl pl : Addr} {room entries least : Int} {ws : List Int} {kvs : List (Key × V)} (S : StoreAt H C st dx wl pl room entries least ws kvs) (f : LamX.ExtN H H') : StoreAt H' C st dx wl pl room entries least ws kvs :=
  ⟨f _ _ S.st (by intro ps z; cases z), f _ _ S.wl (by intro ps z; cases z), f _ _ S.pl (by intro ps z; cases z)⟩
section
variable {P : Program} {w : World} {K : PySem.W.Frag} {mg : Str → Option Value} {base : Heap}
def sp_used : Addr → Sp := fun C vs H Q _ => ∃ st dx wl pl room entries least ws kvs, vs = [.ref st] ∧ StoreAt H C st dx wl pl room entries least ws kvs ∧ Q (.int (ws.length : Int)) H
theorem ok_Store_used (W : WT P K mg base) : FnOk P w K mg base CX0 1 W.f_Store_used W.fd_Store_used ["self"] (sp_used W.c_Store) := by
  refine W.F_Store_used.ok sc_Store_used (fun vs H Q E h => ?_) (fun cdv A outer s H vs Q E hr h => ?_)
  · obtain ⟨st, dx, wl, pl, room, entries, least, ws, kvs, rfl, _⟩ := h
    rfl
  · obtain ⟨st, dx, wl, pl, room, entries, least, ws, kvs, rfl, S, k⟩ := h
    have hu1 := hu_of hr
    refine ⟨_, (pss_one (ps_ret (pe_callB call_lenU (by rfl) W.n_len bb_len (pa_cons (pe_fld (pv 0) rfl) pa_nil)))), ?_⟩
    refine ⟨_, rfl, st, _, dx, _, _, rfl, S.st, W.C_Store, W.na_Store_words, rfl, ?_⟩
    refine Or.inl ⟨_, Or.inl (SqL.of S.wl), ?_⟩
    rw [List.length_map]
    exact k
theorem seg_fl {O : List Ob} {i : Nat} {o : Ob} (h : O[i]? = some o) : seg (flat O) (off O i) (3 + o.sl.length) = fl o := by
  unfold seg
  rw [flat_split h]
  unfold off
  rw [List.drop_left, ← fl_len, List.take_left]
def sp_close (C PT : Addr) : Sp := fun vs H Q _ => ∃ st dx wl pl room entries least kvs O, vs = [.ref st] ∧ StoreAt H C st dx wl pl room entries least (flat O) kvs ∧ Good O kvs least ∧ (flat O).length ≤ 100000 ∧ O.length ≤ 1000 ∧ LamX.TabS H PT qLam ∧
  ∀ H' wl' pl', StoreAt H' C st dx wl' pl' room entries least (flat (O.filter (·.live))) (pD (tbl (O.filter (·.live)))) → LamX.TabS H' PT qLam → FrN [st] H H' → H wl' = none → H pl' = none → Q .non H'
theorem ok_Store_close_up (W : WT P K mg base) : FnOk P w K mg base CX0 1 W.f_Store_close_up W.fd_Store_close_up ["self"] (sp_close W.c_Store W.PT_Store_close_up) := by
  refine W.G_Store_close_up.ok sc_Store_close_up (fun vs H Q E h => ?_) (fun A outer s H vs Q E hr h => ?_)
  · obtain ⟨st, dx, wl, pl, room, entries, least, kvs, O, rfl, _⟩ := h
    rfl
  · obtain ⟨st, dx, wl, pl, room, entries, least, kvs, O, rfl, S, G, hfl, hO, hT, k⟩ := h
    have hu1 := hu_of hr
    have hu64 := hu64_of hr
    refine ⟨_, (pss_cons (ps_set (i := 1) sc_Store_close_up.nd rfl (by first | exact Or.inl rfl | exact Or.inr rfl) (pe_lst pa_nil))
      (pss_cons (ps_set (i := 2) sc_Store_close_up.nd rfl (by first | exact Or.inl rfl | exact Or.inr rfl) pe_dnewK)
      (pss_cons (ps_set (i := 3) sc_Store_close_up.nd rfl (by first | exact Or.inl rfl | exact Or.inr rfl) (pe_fld (pv 0) rfl))
      (pss_cons (ps_for PassesOwn.never rfl (pi_list (pe_sortKeyLam (T := [(W.PT_Store_close_up, qLam)]) (c := W.cA_Store_close_up) (P := W.PT_Store_close_up) (i := 3) (x := "old") (y := "number") rfl hr rfl W.n_sorted rfl rfl W.TB rfl (List.mem_singleton.mpr rfl) (fun p hp _ => by cases List.mem_singleton.mp hp; rfl) rfl rfl rfl rfl (by decide +kernel) rfl rfl (by intro z hz e; rcases List.mem_cons.mp hz with h | h; (subst h; cases e); (cases List.mem_singleton.mp h; exact Or.inl rfl)) (fun _ _ _ _ _ _ => rfl) (by decide) (by decide) (by decide))) (pg_name (i := 4) sc_Store_close_up.nd rfl (by first | exact Or.inl rfl | exact Or.inr rfl)) (pss_cons (ps_set (i := 5) sc_Store_close_up.nd rfl (by first | exact Or.inl rfl | exact Or.inr rfl) (pe_ix (ix_U hu1) (pv 3) (pv 4) (fun _ _ => rfl)))
      (pss_cons (ps_dput hu1 (pv 2) (pv 4) (pe_callB call_lenU (by rfl) W.n_len bb_len (pa_cons (pv 1) pa_nil)) rfl)
      (pss_one (ps_expr (pe_bm PySem.F.plainAttrs_list PySem.F.slot_list_extend PySem.F.type_list_extend mt_extend (pv 1) (pa_cons (pe_slice sl_U (pe_fld (pv 0) rfl) (po_some (pv 5)) (po_some (pe_op op_addU (pe_op op_addU (pv 5) (pe_gi rfl W.g_HEADER)) (pe_ix (ix_U hu1) (pe_fld (pv 0) rfl) (pe_op op_addU (pv 5) pe_int) (fun _ _ => rfl))))) pa_nil)))))))
      (pss_cons (ps_fld (pv 0) (pv 1) rfl)
      (pss_one (ps_fld (pv 0) (pv 2) rfl))))))), ?_⟩
    refine ⟨(by show 0 ≤ sizeLine; decide), fun wn hwn => ?_⟩
    have f1 : Fr [] H (upd H wn (.lst [])) := Fr.new hwn
    have hw1 : upd H wn (.lst []) wn = some (.lst []) := upd_same
    generalize upd H wn (.lst []) = H1 at f1 hw1
    refine fun pn hpn => ?_
    have f2 : Fr [] H1 (upd H1 pn (.dK [])) := Fr.new hpn
    have hp2 : upd H1 pn (.dK []) pn = some (.dK []) := upd_same
    have hw2 := f2 _ _ hw1 (by simp)
    have nwp : wn ≠ pn := ne_of_none hw1 hpn
    have hpn0 : H pn = none := by
      cases e : H pn with
      | none => rfl
      | some o => rw [f1 _ _ e (by simp)] at hpn; cases hpn
    have f2 := f1.trans f2
    show gName 2 (V.ref pn) _ (upd H1 pn (.dK [])) _
    generalize upd H1 pn (.dK []) = H2 at f2 hp2 hw2
    have S2 := S.keep f2 (by simp)
    refine ⟨_, rfl, st, _, dx, _, _, rfl, S2.st, W.C_Store, W.na_Store__places, rfl, ?_⟩
    obtain ⟨ps, ek, nd, pm⟩ := G.pairs
    subst ek
    have T2 : LamX.TabS H2 W.PT_Store_close_up qLam := hT.ext fun b o e => f2 b o e (by simp)
    refine ⟨pl, ps, rfl, S2.pl, nd, (fun p hp => by cases List.mem_singleton.mp hp; exact T2), fun H3 eN T3 ys q py py2 hq => ?_⟩
    have T3 := T3 _ (List.mem_singleton.mpr rfl)
    have ey : ys = tbl O := by_place (py.trans pm) py2
    subst ey
    have S3 := S2.keepN eN
    have hw3 := eN _ _ hw2 (by intro ps z; cases z)
    have hp3 := eN _ _ hp2 (by intro ps z; cases z)
    have f3 : FrN [] H H3 := fun b o e n t => eN _ _ (f2 b o e n) t
    have f4 : Fr [] H3 (upd H3 q (.lst (((tbl O).map (·.1)).map V.int))) := Fr.new hq
    have hq4 : upd H3 q (.lst (((tbl O).map (·.1)).map V.int)) q = some (.lst (((tbl O).map (·.1)).map V.int)) := upd_same
    have T4 := T3.ext fun b o e => f4 b o e (by simp)
    have S4 := S3.keep f4 (by simp)
    have hw4 := f4 _ _ hw3 (by simp)
    have hp4 := f4 _ _ hp3 (by simp)
    have nqw : q ≠ wn := (ne_of_none hw3 hq).symm
    have f4 := f3.trans f4.n
    generalize upd H3 q (.lst (((tbl O).map (·.1)).map V.int)) = H4 at hq4 T4 S4 hw4 hp4 f4
    have lenT : (tbl O).length = (O.filter (·.live)).length := by
      have := congrArg List.length (tbl_fst O)
      rw [List.length_map, List.length_map] at this
      exact this
    have lenL := List.length_filter_le (fun o : Ob => o.live) O
    have wlw : wl ≠ wn := ne_of_none S.wl hwn
    have plp : pl ≠ pn := ne_of_none S.pl hpn0
    have stw : st ≠ wn := ne_of_none S.st hwn
    have stp : st ≠ pn := ne_of_none S.st hpn0
    refine ⟨q, rfl, ⟨_, SqL.of hq4⟩, ?_⟩
    refine for_list (K := K) (a := q) (xs := ((tbl O).map (·.1)).map V.int) (fun j σ H' => ∃ (v4 v5 : Option V), σ = [some (.ref st), some (.ref wn), some (.ref pn), some (.ref pl), v4, v5] ∧ H' q = some (.lst (((tbl O).map (·.1)).map V.int)) ∧ LamX.TabS H' W.PT_Store_close_up qLam ∧ StoreAt H' W.c_Store st dx wl pl room entries least (flat O) (pD ps) ∧ H' wn = some (.lst ((flat ((O.filter (·.live)).take j)).map V.int)) ∧ H' pn = some (.dK (pD (tbl ((O.filter (·.live)).take j)))) ∧ FrN [] H H')
      ⟨_, _, rfl, hq4, T4, S4, hw4, hp4, f4⟩ (fun j σ H5 _ hI => ?_) (fun j x σ H5 hx hI => ?_) (fun σ H5 hI => ?_)
    · obtain ⟨v4, v5, rfl, a1, _⟩ := hI
      exact SqL.of a1
    · obtain ⟨v4, v5, rfl, a1, a2, a3, a4, a5, a6⟩ := hI
      rw [List.map_map, List.getElem?_map] at hx
      obtain ⟨z, hz, rfl⟩ := Option.map_eq_some_iff.mp hx
      obtain ⟨n, pp⟩ := z
      obtain ⟨i, o, ho, hl, rfl, rfl⟩ := (tbl_mem O n pp).mp (List.mem_of_getElem? hz)
      have hoj : (O.filter (·.live))[j]? = some o := by
        have e1 : ((tbl O).map (·.1))[j]? = some o.num := by rw [List.getElem?_map, hz]; rfl
        rw [tbl_fst, List.getElem?_map] at e1
        obtain ⟨o2, h1, h2⟩ := Option.map_eq_some_iff.mp e1
        have m2 := List.mem_filter.mp (List.mem_of_getElem? h1)
        obtain ⟨i2, hi2⟩ := List.getElem?_of_mem m2.1
        have := G.un i2 i o2 o hi2 ho m2.2 hl h2
        subst this
        rw [ho] at hi2
        rw [h1, hi2]
      have hjlt : j < (O.filter (·.live)).length := (List.getElem?_eq_some_iff.mp hoj).1
      have htk : (O.filter (·.live)).take (j + 1) = (O.filter (·.live)).take j ++ [o] := by rw [List.take_succ, hoj]; rfl
      have hlen2 : (flat ((O.filter (·.live)).take j)).length + (fl o).length ≤ 200000 := by
        have h1 := off_lt hoj
        unfold off at h1
        have h2 : (flat (O.filter (·.live))).length ≤ (flat O).length := by
          have : ∀ l : List Ob, (flat (l.filter (·.live))).length ≤ (flat l).length := by
            intro l
            induction l with
            | nil => exact Nat.le_refl _
            | cons a r ih =>
              by_cases q : a.live = true
              · rw [List.filter_cons_of_pos (by exact q), flat_cons, flat_cons, List.length_append, List.length_append]; omega
              · rw [List.filter_cons_of_neg (by exact q), flat_cons, List.length_append]; omega
          exact this O
        rw [fl_len]
        omega
      -- place = old[number]
      refine ⟨_, rfl, _, rfl, Or.inr ⟨.int (off O i : Nat), by rw [← G.at ho hl]; exact DGet.k (k := Sum.inl o.num) a3.pl, ?_⟩⟩
      -- places[number] = len(words)
      refine ⟨_, rfl, Or.inl ⟨_, Or.inl (SqL.of a4), ?_⟩⟩
      rw [List.length_map]
      refine ⟨_, rfl, _, rfl, pn, _, rfl, DPut.k (k := Sum.inl o.num) a5 (by
        unfold pD tbl
        have := congrArg List.length (lvF_ob 0 ((O.filter (·.live)).take j))
        rw [List.length_map] at this
        have h2 := List.length_filter_le (fun o : Ob => o.live) ((O.filter (·.live)).take j)
        rw [List.length_take] at h2
        rw [List.length_map, List.length_map, sizeLine_eq]
        omega), ?_⟩
      have hnew : valV (pD (tbl ((O.filter (·.live)).take j))) (.inl o.num) = none := by
        cases e : valV (pD (tbl ((O.filter (·.live)).take j))) (.inl o.num) with
        | none => rfl
        | some v =>
          exfalso
          obtain ⟨m, i2, h1, h2, h3⟩ : ∃ n i : Int, (n, i) ∈ tbl ((O.filter (·.live)).take j) ∧ (Sum.inl o.num : Key) = .inl n ∧ v = .int i := by
            obtain ⟨p, hp, e2⟩ := List.mem_map.mp (show ((Sum.inl o.num : Key), v) ∈ (tbl ((O.filter (·.live)).take j)).map _ from val_mem e)
            obtain ⟨e3, e4⟩ := Prod.mk.inj e2
            exact ⟨p.1, p.2, hp, e3.symm, e4.symm⟩
          cases h2
          obtain ⟨i3, o3, h4, h5, h6, _⟩ := (tbl_mem _ _ _).mp h1
          rw [List.getElem?_take] at h4
          split at h4
          · rename_i hlt
            have := (List.getElem?_inj (l := (O.filter (·.live)).map (·.num)) (i := i3) (j := j) (by rw [List.length_map]; omega) G.nums).mp (by rw [List.getElem?_map, List.getElem?_map, h4, hoj, Option.map_some, Option.map_some, h6])
            omega
          · cases h4
      have eput : putK (pD (tbl ((O.filter (·.live)).take j))) (.inl o.num) (.int ((flat ((O.filter (·.live)).take j)).length : Int)) = pD (tbl ((O.filter (·.live)).take (j + 1))) := by
        rw [putK_new _ hnew, htk, tbl_snoc _ _ hl]
        unfold pD
        rw [List.map_append]
        rfl
      rw [eput]
      have npw := nwp.symm
      have npl : pl ≠ pn := plp
      have b1 : upd H5 pn (.dK (pD (tbl ((O.filter (·.live)).take (j + 1))))) pn = some (.dK (pD (tbl ((O.filter (·.live)).take (j + 1))))) := upd_same
      have fb : Fr [pn] H5 (upd H5 pn (.dK (pD (tbl ((O.filter (·.live)).take (j + 1)))))) := Fr.at (by simp)
      have nqp : q ≠ pn := ne_of a1 a5 (by intro z; cases z)
      have c1 := fb _ _ a1 (by simpa using nqp)
      have c2 := tab_out a2 fb (fun b hb => by
        have e : b = pn := by simpa using hb
        rw [e]
        exact ⟨_, a5, (by intro ps z; cases z), (by intro ps z; cases z)⟩)
      have nwlp : wl ≠ pn := ne_of a3.wl a5 (by intro z; cases z)
      have c3 := a3.keep fb (fun b hb h => by
        have h : b = pn := by simpa using h
        simp only [List.mem_cons, List.not_mem_nil, or_false] at hb
        rcases hb with e | e | e
        · exact stp (e.symm.trans h)
        · exact nwlp (e.symm.trans h)
        · exact plp (e.symm.trans h))
      have c4 := fb _ _ a4 (by simpa using nwp)
      have c6 : FrN [] H (upd H5 pn (.dK (pD (tbl ((O.filter (·.live)).take (j + 1)))))) := fun b o e n t => by rw [upd_ne (ne_of_none e hpn0)]; exact a6 b o e n t
      generalize upd H5 pn (.dK (pD (tbl ((O.filter (·.live)).take (j + 1))))) = H6 at b1 c1 c2 c3 c4 c6
      -- words.extend(..)
      refine ⟨_, rfl, Or.inl ⟨rfl, _, SqL.of c4⟩, ?_⟩
      refine ⟨_, rfl, st, _, dx, _, _, rfl, c3.st, W.C_Store, W.na_Store_words, rfl, ?_⟩
      refine ⟨_, rfl, _, rfl, ?_⟩
      refine ⟨_, rfl, ?_⟩
      refine ⟨_, rfl, st, _, dx, _, _, rfl, c3.st, W.C_Store, W.na_Store_words, rfl, ?_⟩
      refine ⟨_, rfl, ?_⟩
      refine Or.inl ⟨_, _, _, rfl, Or.inl (SqL.of c3.wl), atI_nat (j := off O i + 1) (int_at (flat_size ho)), ?_⟩
      refine ⟨_, rfl, ?_⟩
      refine Or.inl ⟨wl, _, rfl, SqL.of c3.wl, fun l hl1 => ?_⟩
      have ecut : cutV ((flat O).map V.int) (some ((off O i : Nat) : Int)) (some (((off O i : Nat) : Int) + 3 + (o.sl.length : Int))) = (fl o).map V.int := by
        have h := cut_seg (ws := flat O) (p := off O i) (n := 3 + o.sl.length) (by have := off_lt ho; omega)
        rw [seg_fl ho] at h
        rw [← h]
        congr 2
        omega
      rw [ecut]
      have nwl : wn ≠ l := ne_of_none c4 hl1
      have g7 : Fr [] H6 (upd H6 l (.lst ((fl o).map V.int))) := Fr.new hl1
      have hl7 : upd H6 l (.lst ((fl o).map V.int)) l = some (.lst ((fl o).map V.int)) := upd_same
      generalize upd H6 l (.lst ((fl o).map V.int)) = H7 at g7 hl7
      have c1 := g7 _ _ c1 (by simp)
      have c2 := c2.ext fun b o e => g7 b o e (by simp)
      have c3 := c3.keep g7 (by simp)
      have c4 := g7 _ _ c4 (by simp)
      have b1 := g7 _ _ b1 (by simp)
      have c6 := c6.trans g7.n
      refine ⟨wn, l, _, _, rfl, rfl, c4, hl7, by rw [List.length_map, List.length_map, sizeLine_eq]; omega, ?_⟩
      have ecat : (flat ((O.filter (·.live)).take j)).map V.int ++ (fl o).map V.int = (flat ((O.filter (·.live)).take (j + 1))).map V.int := by
        rw [htk, flat_app, ← List.map_append]
        congr 2
        show fl o = fl o ++ []
        rw [List.append_nil]
      rw [ecat]
      have fd : Fr [wn] H7 (upd H7 wn (.lst ((flat ((O.filter (·.live)).take (j + 1))).map V.int))) := Fr.at (by simp)
      refine ⟨_, _, rfl, fd _ _ c1 (by simpa using nqw), tab_out c2 fd (fun b hb => by
        have e : b = wn := by simpa using hb
        rw [e]
        exact ⟨_, c4, (by intro ps z; cases z), (by intro ps z; cases z)⟩), c3.keep fd (fun b hb h => by
        have h : b = wn := by simpa using h
        simp only [List.mem_cons, List.not_mem_nil, or_false] at hb
        rcases hb with e | e | e
        · exact stw (e.symm.trans h)
        · exact wlw (e.symm.trans h)
        · exact (ne_of c3.pl c4 (by intro z; cases z)) (e.symm.trans h)), upd_same, fd _ _ b1 (by simpa using nwp.symm), fun b o e n t => by rw [upd_ne (ne_of_none e hwn)]; exact c6 b o e n t⟩
    · obtain ⟨v4, v5, rfl, a1, a2, a3, a4, a5, a6⟩ := hI
      have elen : ((((tbl O).map (·.1)).map V.int)).length = (O.filter (·.live)).length := by rw [List.length_map, List.length_map, lenT]
      rw [elen, List.take_length] at a4 a5
      refine ⟨_, rfl, _, rfl, st, _, dx, _, rfl, a3.st, W.C_Store, W.na_Store_words, (by show 5 < 1000; decide), ?_⟩
      refine ⟨_, rfl, _, rfl, st, _, dx, _, rfl, upd_same, W.C_Store, W.na_Store__places, (by show 5 < 1000; decide), ?_⟩
      rw [upd_upd]
      have fd : Fr [st] H5 (upd H5 st (.ins W.c_Store dx (sF room entries wn pn least))) := Fr.at (by simp)
      refine k _ wn pn ⟨upd_same, fd _ _ a4 (by simpa using stw.symm), fd _ _ a5 (by simpa using stp.symm)⟩ (tab_out a2 fd (fun b hb => by
        have e : b = st := by simpa using hb
        rw [e]
        exact ⟨_, a3.st, (by intro ps z; cases z), (by intro ps z; cases z)⟩)) ((a6.mono (by simp)).trans fd.n) hwn hpn0
end

end LX
namespace LX
open PySem PySem.Spec PyProof.Rows L2 NdefX
section
variable {P : Program} {w : World} {K : PySem.W.Frag} {mg : Str → Option Value} {base : Heap}
def kept (O : List Ob) (F : List Int) : List Ob := (O.filter (·.live)).filter fun p => decide (p.num ∈ F)
def sp_collect (C PT : Addr) : Sp := fun vs H Q _ => ∃ st dx wl pl room entries least O kvs ra, ∃ rs : List Int, vs = [.ref st, .ref ra] ∧ StoreAt H C st dx wl pl room entries least (flat O) kvs ∧ Good O kvs least ∧ (∀ o ∈ O, o.sl.length ≤ 39) ∧ (∀ o ∈ O, 0 ≤ o.num) ∧ O.length ≤ 80 ∧ IsI H ra rs ∧ rs.length ≤ 65 ∧ LamX.TabS H PT qLam ∧
  ∀ F H' wl' pl' least', F.Nodup → (∀ n, n ∈ F ↔ Reach O rs n) → StoreAt H' C st dx wl' pl' room entries least' (flat (kept O F)) (pD (tbl (kept O F))) → Good (kept O F) (pD (tbl (kept O F))) least' → LamX.TabS H' PT qLam → FrN [st, wl, pl] H H' → H wl' = none → H pl' = none → Q (.int (((O.filter (·.live)).length : Int) - (F.length : Int))) H'
theorem ok_collect (W : WT P K mg base) : FnOk P w K mg base CX0 4 W.f_collect W.fd_collect ["store", "roots"] (sp_collect W.c_Store W.PT_Store_close_up) := by
  refine W.F_collect.ok sc_collect (fun vs H Q E h => ?_) (fun cdv Ar outer s H vs Q E hr h => ?_)
  · obtain ⟨st, dx, wl, pl, room, entries, least, O, kvs, ra, rs, rfl, _⟩ := h
    rfl
  · obtain ⟨st, dx, wl, pl, room, entries, least, O, kvs, ra, rs, rfl, S, G, sz, nn, hO, hra, hrs, hT, k⟩ := h
    have hu1 := hu_of hr
    have hu64 := hu64_of hr
    refine ⟨_, (pss_cons (ps_set (i := 2) sc_collect.nd rfl (by first | exact Or.inl rfl | exact Or.inr rfl) (pe_call (ok_reached W) (hr.mono (by decide)) rfl W.g_reached W.F_reached.kp W.b_reached .nil pass0 (pa_cons (pv 0) (pa_cons (pv 1) pa_nil))))
      (pss_cons (ps_setLc (i := 3) (own := [("number", 4)]) (g := gName 4)  rfl sc_collect.nd rfl rfl (sw_true rfl rfl rfl (by decide +kernel)) (pi_list (pe_meth0 (pv 0) W.C_Store W.m_Store_numbers (ok_Store_numbers W) (hr.mono (by decide)) W.b_Store_numbers .nil pass0 )) (blkOk_by (N := N_collect) (sc := defScope s_collect) (by decide +kernel)) (fun _ _ _ _ _ => (pg_name (i := 4) sc_collect.nd rfl (by first | exact Or.inl rfl | exact Or.inr rfl))) (fun _ _ _ _ _ => pts_one (pt_cmpR (op_ninUK (K := K) rfl (by exact hu1)) (pv 4) (pv 2) (by first | exact nomark _ | rfl))) (fun _ _ _ _ _ => (pv 4)))
      (pss_cons (ps_for PassesOwn.never rfl (pi_list (pv 3)) (pg_name (i := 4) sc_collect.nd rfl (by first | exact Or.inl rfl | exact Or.inr rfl)) (pss_one (ps_expr (pe_meth (pv 0) W.C_Store W.m_Store_drop (ok_Store_drop W) (hr.mono (by decide)) W.b_Store_drop .nil pass0 (pa_cons (pv 4) pa_nil)))))
      (pss_cons (ps_expr (pe_meth0 (pv 0) W.C_Store W.m_Store_close_up (ok_Store_close_up W) (hr.mono (by decide)) W.b_Store_close_up .nil pass0 ))
      (pss_one (ps_ret (pe_callB call_lenU (by rfl) W.n_len bb_len (pa_cons (pv 3) pa_nil)))))))), ?_⟩
    refine ⟨_, rfl, _, rfl, ?_⟩
    refine ⟨st, dx, wl, pl, room, entries, least, O, kvs, ra, rs, rfl, S, G, sz, hO, hra, hrs, fun D F H1 hD0 hD ndF hF f1 => ?_⟩
    have S1 := S.keep f1 (by simp)
    have T1 := hT.ext fun b o e => f1 b o e (by simp)
    obtain ⟨ns, n1, n2⟩ := G.ints
    have Flen : F.length ≤ O.length := live_len ndF fun n hn => ((hF n).mp hn).live
    refine ⟨_, rfl, st, dx, _, rfl, S1.st, rfl, ?_⟩
    refine ⟨st, dx, wl, pl, _, _, least, _, kvs, ns, rfl, S1, n1, fun ms q pm ps hq => ?_⟩
    have g2 : Fr [] H1 (upd H1 q (.lst (ms.map V.int))) := Fr.new hq
    have hq2 : upd H1 q (.lst (ms.map V.int)) q = some (.lst (ms.map V.int)) := upd_same
    have hD2 := g2 _ _ hD (by simp)
    have S2 := S1.keep g2 (by simp)
    have T2 := T1.ext fun b o e => g2 b o e (by simp)
    generalize upd H1 q (.lst (ms.map V.int)) = H2 at g2 hq2 hD2 S2 T2
    have f2 := f1.trans g2
    have lms : ms.length ≤ 80 := by
      rw [pm.length_eq, n2.length_eq, List.length_map]
      have := List.length_filter_le (fun o : Ob => o.live) O
      omega
    refine ⟨q, rfl, ⟨_, SqL.of hq2⟩, fun gA hgA => ?_⟩
    refine lc_list (K := K) (a := q) (xs := ms.map V.int) (fun i H' => H' = upd H2 gA (.lst (((ms.take i).filter fun n => !decide (n ∈ F)).map V.int))) rfl (fun i H' _ e => ?_) (fun i x H' hx e => ?_) (fun H' e => ?_)
    · subst e
      exact SqL.of (Fr.new (F := []) (o := .lst (((ms.take i).filter fun n => !decide (n ∈ F)).map V.int)) hgA q _ hq2 (by simp))
    · subst e
      rw [List.getElem?_map] at hx
      obtain ⟨n, hn, rfl⟩ := Option.map_eq_some_iff.mp hx
      have hD3 := Fr.new (F := []) (o := .lst (((ms.take i).filter fun n => !decide (n ∈ F)).map V.int)) hgA D _ hD2 (by simp)
      have lt : ((ms.take i).filter fun n => !decide (n ∈ F)).length ≤ 80 := by
        have := List.length_filter_le (fun n => !decide (n ∈ F)) (ms.take i)
        rw [List.length_take] at this
        omega
      refine ⟨rfl, ?_⟩
      refine ⟨_, rfl, _, rfl, Or.inr ⟨_, DGet.k (k := Sum.inl n) hD3, ?_⟩⟩
      rw [dF_val]
      refine ⟨_, rfl, ?_⟩
      by_cases hn2 : n ∈ F
      · rw [if_pos hn2]
        refine iteF ?_
        rw [take_filter_no hn (by simp [hn2])]
      · rw [if_neg hn2]
        refine iteT ?_
        refine ⟨_, rfl, _, upd_same, by rw [List.length_map, sizeLine_eq]; omega, ?_⟩
        rw [upd_upd, take_filter_yes hn (by simp [hn2]), List.map_append]; rfl
    subst e
    rw [List.length_map, List.take_length]
    generalize eG : (ms.filter fun n => !decide (n ∈ F)) = Gn
    have g3 : Fr [] H2 (upd H2 gA (.lst (Gn.map V.int))) := Fr.new hgA
    have hg3 : upd H2 gA (.lst (Gn.map V.int)) gA = some (.lst (Gn.map V.int)) := upd_same
    have S3 := S2.keep g3 (by simp)
    have T3 := T2.ext fun b o e => g3 b o e (by simp)
    have f3 := f2.trans g3
    have hg0 : H gA = none := by
      cases e : H gA with
      | none => rfl
      | some o => rw [f2 _ _ e (by simp)] at hgA; cases hgA
    generalize upd H2 gA (.lst (Gn.map V.int)) = H3 at g3 hg3 S3 T3 f3
    have nst : st ≠ pl := ne_of S3.st S3.pl (by intro z; cases z)
    have ngs : gA ≠ st := ne_of hg3 S3.st (by intro z; cases z)
    have ngp : gA ≠ pl := ne_of hg3 S3.pl (by intro z; cases z)
    have nwp : wl ≠ pl := ne_of S3.wl S3.pl (by intro z; cases z)
    have nwst : wl ≠ st := ne_of S3.wl S3.st (by intro z; cases z)
    have ndms : ms.Nodup := pm.nodup_iff.mpr (n2.nodup_iff.mpr G.nums)
    have ndG : Gn.Nodup := by rw [← eG]; exact ndms.filter _
    have memG : ∀ n, n ∈ Gn ↔ (n ∈ (O.filter (·.live)).map (·.num)) ∧ n ∉ F := fun n => by
      rw [← eG, List.mem_filter, pm.mem_iff, n2.mem_iff]
      simp
    have lenG : (Gn.length : Int) = ((O.filter (·.live)).length : Int) - (F.length : Int) := by
      have p1 : (Gn ++ F).Perm ((O.filter (·.live)).map (·.num)) := by
        refine perm_of (List.nodup_append.mpr ⟨ndG, ndF, fun a ha b hb e => ?_⟩) G.nums fun n => ?_
        · subst e; exact ((memG a).mp ha).2 hb
        · rw [List.mem_append, memG]
          constructor
          · rintro (h | h)
            · exact h.1
            · obtain ⟨i, o, h1, h2, h3⟩ := ((hF n).mp h).live
              exact List.mem_map.mpr ⟨o, List.mem_filter.mpr ⟨List.mem_of_getElem? h1, h2⟩, h3⟩
          · intro h
            by_cases q : n ∈ F
            · exact Or.inr q
            · exact Or.inl ⟨h, q⟩
      have := p1.length_eq
      rw [List.length_append, List.length_map] at this
      omega
    refine ⟨_, rfl, gA, rfl, ⟨_, SqL.of hg3⟩, ?_⟩
    refine for_list (K := K) (a := gA) (xs := Gn.map V.int) (fun j σ H' => ∃ (v4 : Option V) (Oj : List Ob) (kj : List (Key × V)) (lj : Int), σ = [some (.ref st), some (.ref ra), some (.ref D), some (.ref gA), v4] ∧ StoreAt H' W.c_Store st dx wl pl room entries lj (flat O) kj ∧ Good Oj kj lj ∧ flat Oj = flat O ∧ Oj.length = O.length ∧ (∀ o ∈ Oj, 0 ≤ o.num) ∧ Oj.filter (·.live) = (O.filter (·.live)).filter (fun p => !decide (p.num ∈ Gn.take j)) ∧ H' gA = some (.lst (Gn.map V.int)) ∧ LamX.TabS H' W.PT_Store_close_up qLam ∧ Fr [st, pl] H H')
      ⟨_, O, kvs, least, rfl, S3, G, rfl, rfl, nn, by simp, hg3, T3, f3.mono (by simp)⟩ (fun j σ H4 _ hI => ?_) (fun j x σ H4 hx hI => ?_) (fun σ H4 hI => ?_)
    · obtain ⟨v4, Oj, kj, lj, rfl, a1, a2, a3, a4, a5, a6, a7, a8, a9⟩ := hI
      exact SqL.of a7
    · obtain ⟨v4, Oj, kj, lj, rfl, a1, a2, a3, a4, a5, a6, a7, a8, a9⟩ := hI
      rw [List.getElem?_map] at hx
      obtain ⟨n, hn, rfl⟩ := Option.map_eq_some_iff.mp hx
      have hnG := List.mem_of_getElem? hn
      obtain ⟨o, ho, hon⟩ := List.mem_map.mp ((memG n).mp hnG).1
      have hnt : n ∉ Gn.take j := fun h => by
        obtain ⟨i, hi⟩ := List.getElem?_of_mem h
        rw [List.getElem?_take] at hi
        split at hi
        · rename_i hlt
          have hi2 := (List.getElem?_eq_some_iff.mp hi).1
          have := (List.getElem?_inj (l := Gn) (i := i) (j := j) hi2 ndG).mp (by rw [hi, hn])
          omega
        · cases hi
      have hoj : o ∈ Oj.filter (·.live) := by
        rw [a6]
        exact List.mem_filter.mpr ⟨ho, by rw [hon]; simp [hnt]⟩
      obtain ⟨m1, m2⟩ := List.mem_filter.mp hoj
      obtain ⟨i, hi⟩ := List.getElem?_of_mem m1
      have m2 : o.live = true := m2
      subst hon
      refine ⟨_, rfl, st, dx, _, rfl, a1.st, rfl, ?_⟩
      refine ⟨_, rfl, ?_⟩
      refine ⟨st, dx, wl, pl, _, _, lj, _, kj, o.num, rfl, a1, by rw [a2.at hi m2]; rfl, fun H5 S5 k5 => ?_⟩
      have fd : Fr [st, pl] H4 H5 := Fr.of k5 (by simp) (by simp)
      refine ⟨_, Oj.set i { o with live := false }, _, _, rfl, S5, a2.kill hi m2 (a5 o m1), by rw [flat_kill hi]; exact a3, by rw [List.length_set]; exact a4, fun p hp => ?_, ?_, fd _ _ a7 (by simp [ngs, ngp]), tab_out a8 fd (fun b hb => ?_), a9.trans fd⟩
      · rcases List.mem_or_eq_of_mem_set hp with hp | rfl
        · exact a5 p hp
        · exact a5 o m1
      · rw [kill_filter a2 hi m2, a6, List.filter_filter]
        refine List.filter_congr fun p _ => ?_
        have e : Gn.take (j + 1) = Gn.take j ++ [o.num] := by rw [List.take_succ, hn]; rfl
        rw [e]
        by_cases h1 : p.num ∈ Gn.take j <;> by_cases h2 : p.num = o.num <;> simp [h1, h2]
      · simp only [List.mem_cons, List.not_mem_nil, or_false] at hb
        rcases hb with e | e
        · rw [e]; exact ⟨_, a1.st, (by intro ps z; cases z), (by intro ps z; cases z)⟩
        · rw [e]; exact ⟨_, a1.pl, (by intro ps z; cases z), (by intro ps z; cases z)⟩
    · obtain ⟨v4, Oj, kj, lj, rfl, a1, a2, a3, a4, a5, a6, a7, a8, a9⟩ := hI
      rw [List.length_map, List.take_length] at a6
      have fl2 := flat_len sz
      have ek : Oj.filter (·.live) = kept O F := by
        rw [a6]
        unfold kept
        refine List.filter_congr fun p hp => ?_
        by_cases h : p.num ∈ F
        · have : p.num ∉ Gn := fun z => ((memG _).mp z).2 h
          simp [h, this]
        · have : p.num ∈ Gn := (memG _).mpr ⟨List.mem_map.mpr ⟨p, hp, rfl⟩, h⟩
          simp [h, this]
      refine ⟨_, rfl, st, dx, _, rfl, a1.st, rfl, ?_⟩
      refine ⟨st, dx, wl, pl, _, _, lj, kj, Oj, rfl, by rw [a3]; exact a1, a2, by rw [a3]; omega, by omega, a8, fun H6 wl' pl' S6 T6 f6 hw hp => ?_⟩
      rw [ek] at S6
      have G6 := a2.close
      rw [ek] at G6
      have hg6 := f6.lst a7 (by simpa using ngs)
      refine ⟨_, rfl, Or.inl ⟨_, Or.inl (SqL.of hg6), ?_⟩⟩
      rw [List.length_map, lenG]
      have back : ∀ c, H4 c = none → H c = none := fun c hc => by
        cases e : H c with
        | none => rfl
        | some o =>
          by_cases hm : c ∈ [st, pl]
          · simp only [List.mem_cons, List.not_mem_nil, or_false] at hm
            rcases hm with h | h
            · rw [h, a1.st] at hc; cases hc
            · rw [h, a1.pl] at hc; cases hc
          · rw [a9 _ _ e hm] at hc; cases hc
      exact k F H6 wl' pl' lj ndF hF S6 G6 T6 ((a9.n.mono (by simp)).trans (f6.mono (by simp))) (back _ hw) (back _ hp)
end

end LX
namespace LX
open PySem PySem.Spec PyProof.Rows L2 NdefX
/-! ### what is kept, plainly -/
theorem kept_mem {O : List Ob} {F : List Int} {p : Ob} : p ∈ kept O F ↔ p ∈ O ∧ p.live = true ∧ p.num ∈ F := by
  unfold kept
  rw [List.mem_filter, List.mem_filter]
  constructor
  · rintro ⟨⟨a, b⟩, c⟩; exact ⟨a, b, of_decide_eq_true c⟩
  · rintro ⟨a, b, c⟩; exact ⟨⟨a, b⟩, decide_eq_true c⟩
theorem kept_filter {O : List Ob} {F : List Int} : (kept O F).filter (·.live) = kept O F := List.filter_eq_self.mpr fun _ h => (kept_mem.mp h).2.1
theorem kept_cong {O : List Ob} {F F' : List Int} (h : ∀ n, n ∈ F ↔ n ∈ F') : kept O F = kept O F' := List.filter_congr fun p _ => by
  by_cases q : p.num ∈ F
  · simp [q, (h _).mp q]
  · have q2 : p.num ∉ F' := fun z => q ((h _).mpr z)
    simp [q, q2]
theorem kept_len {O : List Ob} {F : List Int} : (kept O F).length ≤ O.length := Nat.le_trans (List.length_filter_le _ _) (List.length_filter_le _ _)
theorem kept_iff {O : List Ob} {F : List Int} (h : ∀ n ∈ F, Live O n) (n : Int) : Live (kept O F) n ↔ n ∈ F := by
  constructor
  · rintro ⟨i, o, h1, h2, rfl⟩
    exact (kept_mem.mp (List.mem_of_getElem? h1)).2.2
  · intro hn
    obtain ⟨i, o, h1, h2, rfl⟩ := h n hn
    obtain ⟨j, hj⟩ := List.getElem?_of_mem (kept_mem.mpr ⟨List.mem_of_getElem? h1, h2, hn⟩)
    exact ⟨j, o, hj, h2, rfl⟩
theorem kept_reach {O : List Ob} {rs F : List Int} (h : ∀ n, n ∈ F ↔ Reach O rs n) (n : Int) : Reach (kept O F) rs n ↔ n ∈ F := by
  have lv : ∀ n ∈ F, Live O n := fun n hn => ((h n).mp hn).live
  constructor
  · exact fun z => (kept_iff lv n).mp z.live
  · intro hn
    have r := (h n).mp hn
    clear hn
    induction r with
    | root h1 h2 h3 => exact .root h1 h2 ((kept_iff lv _).mpr ((h _).mpr (.root h1 h2 h3)))
    | step h1 h2 h3 h4 h5 h6 h7 ih =>
      have mF := (h _).mpr h1
      obtain ⟨j, hj⟩ := List.getElem?_of_mem (kept_mem.mpr ⟨List.mem_of_getElem? h2, h3, by rw [h4]; exact mF⟩)
      exact .step ih hj h3 h4 h5 h6 ((kept_iff lv _).mpr ((h _).mpr (.step h1 h2 h3 h4 h5 h6 h7)))
theorem kept_nums {O : List Ob} {kvs : List (Key × V)} {least : Int} {F : List Int} (G : Good O kvs least) (nd : F.Nodup) (lv : ∀ n ∈ F, Live O n) : ((kept O F).map (·.num)).Perm F := by
  refine perm_of ?_ nd fun n => ?_
  · unfold kept
    exact G.nums.sublist (List.Sublist.map _ List.filter_sublist)
  · constructor
    · intro h
      obtain ⟨o, ho, rfl⟩ := List.mem_map.mp h
      exact (kept_mem.mp ho).2.2
    · intro h
      obtain ⟨i, o, h1, _, rfl⟩ := (kept_iff lv n).mpr h
      exact List.mem_map.mpr ⟨o, List.mem_of_getElem? h1, rfl⟩
theorem RowAt.keepN {H H' : Hp} {rl : Addr} {A : List (Addr × Addr)} {O : List Ob} {F : List Addr} (R : RowAt H rl A O) (f : FrN F H H') (h1 : rl ∉ F) (h2 : ∀ a ∈ A, a.1 ∉ F ∧ a.2 ∉ F) : RowAt H' rl A O :=
  ⟨f.lst R.rl h1, R.len, fun i a o ha ho => ⟨f.lst (R.it i a o ha ho).1 (h2 a (List.mem_of_getElem? ha)).1, f.lst (R.it i a o ha ho).2 (h2 a (List.mem_of_getElem? ha)).2⟩⟩
/-- lists outside of the store are kept -/
def LsK (w1 : Addr) (H H' : Hp) (w2 : Addr) : Prop := ∀ b xs, H b = some (.lst xs) → b ≠ w1 → H' b = some (.lst xs) ∧ b ≠ w2
theorem LsK.row {w1 w2 : Addr} {H H' : Hp} (k : LsK w1 H H' w2) {rl : Addr} {A : List (Addr × Addr)} {O : List Ob} (R : RowAt H rl A O) (h1 : rl ≠ w1) (h2 : ∀ a ∈ A, a.1 ≠ w1 ∧ a.2 ≠ w1) : RowAt H' rl A O :=
  ⟨(k _ _ R.rl h1).1, R.len, fun i a o ha ho => ⟨(k _ _ (R.it i a o ha ho).1 (h2 a (List.mem_of_getElem? ha)).1).1, (k _ _ (R.it i a o ha ho).2 (h2 a (List.mem_of_getElem? ha)).2).1⟩⟩
theorem LsK.fr {w1 w2 : Addr} {H H' H'' : Hp} (k : LsK w1 H H' w2) {F : List Addr} (f : Fr F H' H'') (h : ∀ b ∈ F, ∀ xs, H' b ≠ some (.lst xs)) : LsK w1 H H'' w2 := fun b xs e n => by
  obtain ⟨h1, h2⟩ := k b xs e n
  exact ⟨f _ _ h1 (fun m => h b m xs h1), h2⟩
section
variable {P : Program} {w : World} {K : PySem.W.Frag} {mg : Str → Option Value} {base : Heap}
def sp_freeL : Sp := fun vs H Q _ => ∃ a, ∃ ns : List Int, vs = [.ref a] ∧ IsI H a ns ∧ ns.length ≤ 1000 ∧ ∀ m : Int, 0 ≤ m → m ∉ ns → (∀ j : Int, 0 ≤ j → j < m → j ∈ ns) → Q (.int m) H
theorem ok__law_free (W : WT P K mg base) : FnOk P w K mg base CX0 1 W.f__law_free W.fd__law_free ["_law_numbers"] sp_freeL := by
  refine W.F__law_free.ok sc__law_free (fun vs H Q E h => ?_) (fun cdv Ar outer s H vs Q E hr h => ?_)
  · obtain ⟨a, ns, rfl, _⟩ := h
    rfl
  · obtain ⟨a, ns, rfl, ha, hl, k⟩ := h
    have hu1 := hu_of hr
    have hu64 := hu64_of hr
    refine ⟨_, (pss_cons (ps_for PassesOwn.never rfl (pi_range1 (by rfl) W.n_range (pa_cons (pe_op op_addU (pe_callB call_lenU (by rfl) W.n_len bb_len (pa_cons (pv 0) pa_nil)) pe_int) pa_nil)) (pg_name (i := 1) sc__law_free.nd rfl (by first | exact Or.inl rfl | exact Or.inr rfl)) (pss_one (ps_if (pt_cmpR (op_ninU hu1) (pv 1) (pv 0) (by first | exact nomark _ | rfl)) (pss_one (ps_ret (pv 1))) pss_nil)))
      (pss_one (ps_ret pe_int))), ?_⟩
    refine ⟨_, rfl, Or.inl ⟨_, Or.inl (SqL.of ha), ?_⟩⟩
    rw [List.length_map]
    refine ⟨((ns.length + 1 : Nat) : Int), rfl, by omega, by omega, ?_⟩
    rw [Int.toNat_natCast]
    refine for_range (lo := 0) (n := ns.length + 1) (fun i σ H' => (∃ v, σ = [some (.ref a), v]) ∧ H' = H ∧ ∀ j : Int, 0 ≤ j → j < i → j ∈ ns) ⟨⟨_, rfl⟩, rfl, fun j h0 h1 => by omega⟩ (fun i σ H' hi hI => ?_) (fun σ H' hI => ?_)
    · obtain ⟨⟨v, rfl⟩, rfl, hI⟩ := hI
      refine ⟨_, rfl, _, rfl, Or.inl ⟨_, Or.inl (SqL.of ha), rfl, flat_ints _, ?_⟩⟩
      rw [in_ints]
      refine ⟨_, rfl, ?_⟩
      refine iteND (fun hn => ?_) (fun hn => ?_)
      · refine ⟨_, rfl, k _ (by omega) hn fun j h0 h1 => hI j h0 (by omega)⟩
      · refine ⟨⟨_, rfl⟩, rfl, fun j h0 h1 => ?_⟩
        by_cases e : j = 0 + (i : Int)
        · rw [e]; exact hn
        · exact hI j h0 (by omega)
    · obtain ⟨_, _, hI⟩ := hI
      exfalso
      have := pig (α := Int) (fun n => (n : Int)) (fun i j e => by have e : (i : Int) = j := e; omega) (ns.length + 1) ns fun n hn => hI n (by omega) (by omega)
      omega
theorem fr_none {H H' : Hp} {p : Addr} (f : Fr [] H H') (h : H' p = none) : H p = none := by
  cases e : H p with
  | none => rfl
  | some o => rw [f _ _ e (by simp)] at h; cases h
def sp_law5 (K : PySem.W.Frag) (PT : Addr) : Sp := fun vs H Q _ => ∃ (a : Addr) (ns : List Int), vs = [.ref a] ∧ SqL K H a (ns.map V.int) ∧ ns.length ≤ 63 ∧ LamX.TabS H PT qLam ∧ ∀ H', Q (.bl true) H'
theorem ok_law (W : WT P K mg base) : FnOk P w K mg base CX0 5 W.f_law W.fd_law ["_law_script"] (sp_law5 K W.PT_Store_close_up) := by
  refine W.F_law.ok sc_law (fun vs H Q E h => ?_) (fun cdv Ar outer s H vs Q E hr h => ?_)
  · obtain ⟨a, ns, rfl, _⟩ := h
    rfl
  · obtain ⟨a, ns, rfl, hs, hl, hT, k⟩ := h
    have hu1 := hu_of hr
    have hu64 := hu64_of hr
    refine ⟨_, (pss_cons (ps_setLc (i := 1) (own := [("_law_cell", 2)]) (g := gName 2) (tt := tYes) rfl sc_law.nd rfl rfl (sw_true rfl rfl rfl (by decide +kernel)) (pi_list (pv 0)) (blkOk_by (N := N_law) (sc := defScope s_law) (by decide +kernel)) (fun _ _ _ _ _ => (pg_name (i := 2) sc_law.nd rfl (by first | exact Or.inl rfl | exact Or.inr rfl))) (fun _ _ _ _ _ => pts_nil) (fun _ _ _ _ _ => (pe_callTy call_intU (by rfl) W.n_int bb_int (pa_cons (pv 2) pa_nil))))
      (Evl.pss_cut (ps_while PassesOwn.never (pt_cmpR op_ltU (pe_callB call_lenU (by rfl) W.n_len bb_len (pa_cons (pv 1) pa_nil)) pe_int (by first | exact nomark _ | rfl)) (pss_one (ps_expr (pe_bm PySem.F.plainAttrs_list PySem.F.slot_list_append PySem.F.type_list_append mt_append (pv 1) (pa_cons pe_int pa_nil)))))
      (pss_cons (ps_set (i := 3) sc_law.nd rfl (by first | exact Or.inl rfl | exact Or.inr rfl) (pe_make W.M_Store (ok_Store___init__ W) (hr.mono (by decide)) rfl W.g_Store W.b_Store___init__ .nil pass0 (pa_cons pe_int (pa_cons pe_int pa_nil))))
      (pss_cons (ps_set (i := 4) sc_law.nd rfl (by first | exact Or.inl rfl | exact Or.inr rfl) (pe_call (ok__law_built W) (hr.mono (by decide)) rfl W.g__law_built W.F__law_built.kp W.b__law_built .nil pass0 (pa_cons (pv 3) (pa_cons (pv 1) pa_nil))))
      (pss_cons (ps_if (pt_not (pt_truth (pe_call (ok__law_same W) (hr.mono (by decide)) rfl W.g__law_same W.F__law_same.kp W.b__law_same .nil pass0 (pa_cons (pe_fld (pv 3) rfl) (pa_cons (pe_call (ok__law_flat W) (hr.mono (by decide)) rfl W.g__law_flat W.F__law_flat.kp W.b__law_flat .nil pass0 (pa_cons (pv 4) pa_nil)) pa_nil))) (by intro _; rfl))) (pss_one (ps_ret pe_bl)) pss_nil)
      (pss_cons (ps_set (i := 5) sc_law.nd rfl (by first | exact Or.inl rfl | exact Or.inr rfl) (pe_call (ok__law_roots W) (hr.mono (by decide)) rfl W.g__law_roots W.F__law_roots.kp W.b__law_roots .nil pass0 (pa_cons (pv 4) (pa_cons (pv 1) pa_nil))))
      (pss_cons (ps_set (i := 6) sc_law.nd rfl (by first | exact Or.inl rfl | exact Or.inr rfl) (pe_callTy call_list_of (by rfl) W.n_list bb_list (pa_cons (pv 5) pa_nil)))
      (pss_cons (ps_set (i := 7) sc_law.nd rfl (by first | exact Or.inl rfl | exact Or.inr rfl) (pe_call (ok__law_due W) (hr.mono (by decide)) rfl W.g__law_due W.F__law_due.kp W.b__law_due .nil pass0 (pa_cons (pv 4) (pa_cons (pv 5) pa_nil))))
      (pss_cons (ps_set (i := 8) sc_law.nd rfl (by first | exact Or.inl rfl | exact Or.inr rfl) (pe_call (ok__law_living W) (hr.mono (by decide)) rfl W.g__law_living W.F__law_living.kp W.b__law_living .nil pass0 (pa_cons (pv 4) pa_nil)))
      (pss_cons (ps_set (i := 9) sc_law.nd rfl (by first | exact Or.inl rfl | exact Or.inr rfl) (pe_call (ok_collect W) (hr.mono (by decide)) rfl W.g_collect W.F_collect.kp W.b_collect .nil pass0 (pa_cons (pv 3) (pa_cons (pv 6) pa_nil))))
      (pss_cons (ps_set (i := 10) sc_law.nd rfl (by first | exact Or.inl rfl | exact Or.inr rfl) (pe_call (ok__law_flat W) (hr.mono (by decide)) rfl W.g__law_flat W.F__law_flat.kp W.b__law_flat .nil pass0 (pa_cons (pe_lc (own := [("_law_one", 11)]) (g := gName 11)  rfl sc_law.nd (pi_list (pv 8)) (blkOk_by (N := N_law) (sc := defScope s_law) (by decide +kernel)) (fun _ _ _ _ _ => (pg_name (i := 11) sc_law.nd rfl (by first | exact Or.inl rfl | exact Or.inr rfl))) (fun _ _ _ _ _ => pts_one (pt_cmpR (op_inUK (K := K) rfl (by exact hu1)) (pe_ix (ix_UK (K := K) rfl (by exact hu1)) (pv 11) pe_int (fun _ _ => rfl)) (pv 7) (by first | exact nomark _ | rfl))) (fun _ _ _ _ _ => (pv 11))) pa_nil)))
      (pss_cons (ps_if (PW.pt (pw_or (pt_not (pt_truth (pe_call (ok__law_is W) (hr.mono (by decide)) rfl W.g__law_is W.F__law_is.kp W.b__law_is .nil pass0 (pa_cons (pv 9) (pa_cons (pe_op op_sub (pe_callB call_lenU (by rfl) W.n_len bb_len (pa_cons (pv 8) pa_nil)) (pe_callB call_lenU (by rfl) W.n_len bb_len (pa_cons (pv 7) pa_nil))) pa_nil))) (by intro _; rfl))) (pw_or1 (pt_not (pt_truth (pe_call (ok__law_same W) (hr.mono (by decide)) rfl W.g__law_same W.F__law_same.kp W.b__law_same .nil pass0 (pa_cons (pv 6) (pa_cons (pv 5) pa_nil))) (by intro _; rfl)))))) (pss_one (ps_ret pe_bl)) pss_nil)
      (Evl.pss_cut (ps_for PassesOwn.never rfl (pi_range1 (by rfl) W.n_range (pa_cons pe_int pa_nil)) (pg_name (i := 12) sc_law.nd rfl (by first | exact Or.inl rfl | exact Or.inr rfl)) (pss_cons (ps_if (PW.pt (pw_or (pt_not (pt_truth (pe_call (ok__law_same W) (hr.mono (by decide)) rfl W.g__law_same W.F__law_same.kp W.b__law_same .nil pass0 (pa_cons (pe_fld (pv 3) rfl) (pa_cons (pv 10) pa_nil))) (by intro _; rfl))) (pw_or1 (pt_not (pt_truth (pe_call (ok__law_is W) (hr.mono (by decide)) rfl W.g__law_is W.F__law_is.kp W.b__law_is .nil pass0 (pa_cons (pe_meth0 (pv 3) W.C_Store W.m_Store_used (ok_Store_used W) (hr.mono (by decide)) W.b_Store_used .nil pass0 ) (pa_cons (pe_callB call_lenU (by rfl) W.n_len bb_len (pa_cons (pv 10) pa_nil)) pa_nil))) (by intro _; rfl)))))) (pss_one (ps_ret pe_bl)) pss_nil)
      (pss_cons (ps_if (PW.pt (pw_or (pt_not (pt_truth (pe_call (ok__law_same W) (hr.mono (by decide)) rfl W.g__law_same W.F__law_same.kp W.b__law_same .nil pass0 (pa_cons (pe_meth0 (pv 3) W.C_Store W.m_Store_numbers (ok_Store_numbers W) (hr.mono (by decide)) W.b_Store_numbers .nil pass0 ) (pa_cons (pv 7) pa_nil))) (by intro _; rfl))) (pw_or1 (pt_not (pt_truth (pe_call (ok__law_is W) (hr.mono (by decide)) rfl W.g__law_is W.F__law_is.kp W.b__law_is .nil pass0 (pa_cons (pe_meth0 (pv 3) W.C_Store W.m_Store_free_number (ok_Store_free_number W) (hr.mono (by decide)) W.b_Store_free_number .nil pass0 ) (pa_cons (pe_call (ok__law_free W) (hr.mono (by decide)) rfl W.g__law_free W.F__law_free.kp W.b__law_free .nil pass0 (pa_cons (pv 7) pa_nil)) pa_nil))) (by intro _; rfl)))))) (pss_one (ps_ret pe_bl)) pss_nil)
      (pss_cons (ps_for PassesOwn.never rfl (pi_list (pv 8)) (pg_name (i := 11) sc_law.nd rfl (by first | exact Or.inl rfl | exact Or.inr rfl)) (pss_cons (ps_set (i := 13) sc_law.nd rfl (by first | exact Or.inl rfl | exact Or.inr rfl) (pe_meth (pv 3) W.C_Store W.m_Store_exists (ok_Store_exists W) (hr.mono (by decide)) W.b_Store_exists .nil pass0 (pa_cons (pe_ix (ix_U hu1) (pv 11) pe_int (fun _ _ => rfl)) pa_nil)))
      (pss_cons (ps_if (PW.pt (pw_or (pt_not (pt_truth (pe_callB call_isi (by rfl) W.n_isinstance bb_isinstance (pa_cons (pv 13) (pa_cons (pe_bt rfl W.n_bool bb_bool) pa_nil))) (by intro _; rfl))) (pw_or1 (pt_cmpR (op_neU hu64) (pv 13) (pe_cmpR (op_inU hu1) (pe_ix (ix_U hu1) (pv 11) pe_int (fun _ _ => rfl)) (pv 7) (by first | exact nomark _ | rfl)) (by first | exact nomark _ | rfl))))) (pss_one (ps_ret pe_bl)) pss_nil)
      (pss_one (ps_if (PW.pt (pw_and (pt_cmpR (op_inU hu1) (pe_ix (ix_U hu1) (pv 11) pe_int (fun _ _ => rfl)) (pv 7) (by first | exact nomark _ | rfl)) (pw_and1 (pt_not (pt_truth (pe_call (ok__law_same W) (hr.mono (by decide)) rfl W.g__law_same W.F__law_same.kp W.b__law_same .nil pass0 (pa_cons (pe_meth (pv 3) W.C_Store W.m_Store_slots (ok_Store_slots W) (hr.mono (by decide)) W.b_Store_slots .nil pass0 (pa_cons (pe_ix (ix_U hu1) (pv 11) pe_int (fun _ _ => rfl)) pa_nil)) (pa_cons (pe_ix (ix_U hu1) (pv 11) pe_int (fun _ _ => rfl)) pa_nil))) (by intro _; rfl)))))) (pss_one (ps_ret pe_bl)) pss_nil)))))
      (pss_one (ps_if (PW.pt (pw_and (pt_cmpR (op_eqU hu64) (pv 12) pe_int (by first | exact nomark _ | rfl)) (pw_and1 (pt_not (pt_truth (pe_call (ok__law_is W) (hr.mono (by decide)) rfl W.g__law_is W.F__law_is.kp W.b__law_is .nil pass0 (pa_cons (pe_call (ok_collect W) (hr.mono (by decide)) rfl W.g_collect W.F_collect.kp W.b_collect .nil pass0 (pa_cons (pv 3) (pa_cons (pv 6) pa_nil))) (pa_cons pe_int pa_nil))) (by intro _; rfl)))))) (pss_one (ps_ret pe_bl)) pss_nil))))))
      (pss_one (ps_ret pe_bl))))))))))))))), ?_⟩
    -- cells
    refine ⟨_, rfl, a, rfl, ⟨_, hs⟩, fun cl hcl => ?_⟩
    refine lc_list (K := K) (a := a) (xs := ns.map V.int) (fun i H' => H' = upd H cl (.lst ((ns.take i).map V.int))) rfl (fun i H' _ e => ?_) (fun i x H' hx e => ?_) (fun H' e => ?_)
    · subst e
      have same : L2.Same H (upd H cl (.lst ((ns.take i).map V.int))) := fun b u e => by rw [upd_ne (ne_of_none e hcl)]; exact e
      exact same.seq hs
    · subst e
      rw [List.getElem?_map] at hx
      obtain ⟨n, hn, rfl⟩ := Option.map_eq_some_iff.mp hx
      refine ⟨rfl, ?_⟩
      refine ⟨_, rfl, ?_⟩
      refine ⟨_, upd_same, by rw [List.length_map, List.length_take, sizeLine_eq]; omega, ?_⟩
      rw [upd_upd, List.take_succ, hn, List.map_append]
      rfl
    subst e
    rw [List.length_map, List.take_length]
    have hc1 : upd H cl (.lst (ns.map V.int)) cl = some (.lst (ns.map V.int)) := upd_same
    have hT := hT.ext fun b o e => Fr.new (F := []) (o := .lst (ns.map V.int)) hcl b o e (by simp)
    show gName 1 (V.ref cl) _ (upd H cl (.lst (ns.map V.int))) _
    generalize upd H cl (.lst (ns.map V.int)) = H1 at hc1 hT
    -- at least two
    refine ⟨fun σ H' => ∃ ns2 : List Int, σ = (L2.start N_law [V.ref a]).set 1 (some (.ref cl)) ∧ IsI H' cl ns2 ∧ 2 ≤ ns2.length ∧ ns2.length ≤ 65 ∧ LamX.TabS H' W.PT_Store_close_up qLam, ?_, ?_⟩
    · refine ⟨fun m σ H' => ∃ ns2 : List Int, σ = (L2.start N_law [V.ref a]).set 1 (some (.ref cl)) ∧ IsI H' cl ns2 ∧ ns2.length ≤ 65 ∧ LamX.TabS H' W.PT_Store_close_up qLam ∧ m = 2 - ns2.length, ⟨_, ns, rfl, hc1, by omega, hT, rfl⟩, ?_⟩
      rintro m σ H2 ⟨ns2, rfl, hc2, hl2, hT2, rfl⟩
      refine ⟨_, rfl, Or.inl ⟨_, Or.inl (SqL.of hc2), ?_⟩⟩
      rw [List.length_map]
      refine ⟨_, rfl, ?_⟩
      refine iteD (fun h => ?_) (fun h => ?_)
      · have h : (ns2.length : Int) < 2 := h
        refine ⟨_, fun _ _ z => z, ?_⟩
        refine ⟨_, rfl, Or.inl ⟨rfl, _, SqL.of hc2⟩, ?_⟩
        refine ⟨cl, _, _, rfl, rfl, hc2, by rw [List.length_map, sizeLine_eq]; omega, ?_⟩
        refine ⟨2 - (ns2 ++ [1]).length, by rw [List.length_append]; show 2 - (ns2.length + 1) < _; omega, ns2 ++ [1], rfl, ?_, by rw [List.length_append]; show ns2.length + 1 ≤ _; omega, ?_, rfl⟩
        · show upd _ _ _ _ = _
          rw [upd_same, List.map_append]
          rfl
        · exact tab_out hT2 (Fr.at (F := [cl]) (by simp)) fun b hb => by
            have e : b = cl := by simpa using hb
            rw [e]
            exact ⟨_, hc2, (by intro ps z; cases z), (by intro ps z; cases z)⟩
      · have h : ¬ (ns2.length : Int) < 2 := h
        exact ⟨ns2, rfl, hc2, by omega, hl2, hT2⟩
    rintro σ H2 ⟨cs, rfl, hc, hn2, hn65, hT⟩
    -- the store
    refine fun st dx hst hdx ndx => ?_
    have hx0 : upd H2 dx (.own st) st = none := by rw [upd_ne ndx.symm]; exact hst
    refine ⟨st, dx, 100000, 100000, rfl, upd_same, fun H3 wl pl S3 f3 hwl hpl => ⟨rfl, ?_⟩⟩
    have fS : Fr [] H2 H3 := fun b o e _ => by
      have h1 : upd H2 dx (.own st) b = some o := by rw [upd_ne (ne_of_none e hdx)]; exact e
      exact f3 b o (by rw [upd_ne (ne_of_none h1 hx0)]; exact h1) (ne_of_none e hst)
    have hc := fS _ _ hc (by simp)
    have hT := hT.ext fun b o e => fS b o e (by simp)
    -- the row
    refine ⟨_, rfl, _, rfl, ?_⟩
    refine ⟨st, dx, wl, pl, cl, cs, rfl, S3, hc, hn2, fun rl A O kvs least H4 L4 hO f4 => ?_⟩
    have hT := tab_out hT f4 fun b hb => by
      simp only [List.mem_cons, List.not_mem_nil, or_false] at hb
      rcases hb with e | e | e
      · rw [e]; exact ⟨_, S3.st, (by intro ps z; cases z), (by intro ps z; cases z)⟩
      · rw [e]; exact ⟨_, S3.wl, (by intro ps z; cases z), (by intro ps z; cases z)⟩
      · rw [e]; exact ⟨_, S3.pl, (by intro ps z; cases z), (by intro ps z; cases z)⟩
    have ncl : cl ∉ [st, wl, pl] := fun h => by
      simp only [List.mem_cons, List.not_mem_nil, or_false] at h
      rcases h with h | h | h
      · rw [h, S3.st] at hc; cases hc
      · rw [h, S3.wl] at hc
        have hc : HO.lst ([].map V.int) = .lst (cs.map V.int) := Option.some.inj hc
        cases cs with
        | nil => simp at hn2
        | cons => cases hc
      · rw [h, S3.pl] at hc; cases hc
    have hc := f4 _ _ hc ncl
    have fl4 := flat_len L4.sz
    have kl4 := L4.G.kl
    -- the flat list
    refine ⟨_, rfl, st, _, dx, _, _, rfl, L4.S.st, W.C_Store, W.na_Store_words, rfl, ?_⟩
    refine ⟨_, rfl, ?_⟩
    refine ⟨rl, A, O, rfl, L4.R, by omega, fun FL H5 hFL0 hFL f5 => ?_⟩
    have L5 := L4.keep f5
    have hc := f5 _ _ hc (by simp)
    have hT := hT.ext fun b o e => f5 b o e (by simp)
    refine ⟨wl, FL, flat O, rfl, L5.S.wl, hFL, by omega, ?_⟩
    refine ⟨_, rfl, iteF ?_⟩
    -- the roots
    refine ⟨_, rfl, _, rfl, ?_⟩
    refine ⟨rl, A, O, cl, cs, rfl, L5.R, by omega, hc, hn2, hn65, fun rA rs hrA hrs => ?_⟩
    have f6 : Fr [] H5 (upd H5 rA (.lst (rs.map V.int))) := Fr.new hrA
    have hr6 : upd H5 rA (.lst (rs.map V.int)) rA = some (.lst (rs.map V.int)) := upd_same
    have nrw : rA ≠ wl := (ne_of_none L5.S.wl hrA).symm
    generalize upd H5 rA (.lst (rs.map V.int)) = H6 at f6 hr6
    have L6 := L5.keep f6
    have hT := hT.ext fun b o e => f6 b o e (by simp)
    -- passed
    refine ⟨_, rfl, rA, _, rfl, Or.inl (SqL.of hr6), fun pA hpA => ?_⟩
    have f7 : Fr [] H6 (upd H6 pA (.lst (rs.map V.int))) := Fr.new hpA
    have hp7 : upd H6 pA (.lst (rs.map V.int)) pA = some (.lst (rs.map V.int)) := upd_same
    have hr7 := f7 _ _ hr6 (by simp)
    have L7 := L6.keep f7
    have hT := hT.ext fun b o e => f7 b o e (by simp)
    have npw : pA ≠ wl := (ne_of_none L6.S.wl hpA).symm
    show gName 6 (V.ref pA) _ (upd H6 pA (.lst (rs.map V.int))) _
    generalize upd H6 pA (.lst (rs.map V.int)) = H7 at f7 hp7 hr7 L7 hT
    -- due
    refine ⟨_, rfl, _, rfl, ?_⟩
    refine ⟨rl, A, O, kvs, least, rA, rs, rfl, L7.R, L7.G, L7.sz, by omega, hr7, hrs, fun dA F H8 hdA0 hdA hF f8 => ?_⟩
    have L8 := L7.keep f8
    have hr8 := f8 _ _ hr7 (by simp)
    have hp8 := f8 _ _ hp7 (by simp)
    have hT := hT.ext fun b o e => f8 b o e (by simp)
    have ndw : dA ≠ wl := (ne_of_none L7.S.wl hdA0).symm
    -- living
    refine ⟨_, rfl, ?_⟩
    refine ⟨rl, A, O, rfl, L8.R, by omega, fun zA hzA => ?_⟩
    have f9 : Fr [] H8 (upd H8 zA (.lst ((Zl A O).map fun z => V.ref z.1.1))) := Fr.new hzA
    have hz9 : upd H8 zA (.lst ((Zl A O).map fun z => V.ref z.1.1)) zA = some (.lst ((Zl A O).map fun z => V.ref z.1.1)) := upd_same
    have nzw : zA ≠ wl := (ne_of_none L8.S.wl hzA).symm
    have L9 := L8.keep f9
    have hr9 := f9 _ _ hr8 (by simp)
    have hp9 := f9 _ _ hp8 (by simp)
    have hd9 := f9 _ _ hdA (by simp)
    have hT := hT.ext fun b o e => f9 b o e (by simp)
    show gName 8 (V.ref zA) _ (upd H8 zA (.lst ((Zl A O).map fun z => V.ref z.1.1))) _
    generalize upd H8 zA (.lst ((Zl A O).map fun z => V.ref z.1.1)) = H9 at f9 hz9 L9 hr9 hp9 hd9 hT
    have zl : (Zl A O).length = (O.filter (·.live)).length := by
      have e := congrArg List.length (Zl_snd L9.R.len)
      rw [List.length_map] at e
      exact e
    have zl8 : (O.filter (·.live)).length ≤ O.length := List.length_filter_le _ _
    -- told
    refine ⟨_, rfl, _, rfl, ?_⟩
    refine ⟨st, dx, wl, pl, _, _, least, O, kvs, pA, rs, rfl, L9.S, L9.G, L9.sz, L9.nn, by omega, hp9, hrs, hT, fun F2 H10 wl1 pl1 least1 nd2 hF2 S10 G10 hT10 f10 hw0 hpl0 => ?_⟩
    have pF : F2.Perm F := perm_of nd2 hF.1 fun n => (hF2 n).trans (hF.2.1 n).symm
    have lvF : ∀ n ∈ F, Live O n := fun n hn => ((hF.2.1 n).mp hn).live
    have Flen : F.length ≤ O.length := live_len hF.1 lvF
    have eK : kept O F2 = kept O F := kept_cong fun n => pF.mem_iff
    rw [eK] at S10 G10
    rw [pF.length_eq]
    have out : ∀ b, (∃ xs, H9 b = some (.lst xs)) → b ≠ wl → b ∉ [st, wl, pl] := fun b ⟨xs, e⟩ n h => by
      simp only [List.mem_cons, List.not_mem_nil, or_false] at h
      rcases h with h | h | h
      · rw [h, L9.S.st] at e; cases e
      · exact n h
      · rw [h, L9.S.pl] at e; cases e
    have hp10 := f10.lst hp9 (out _ ⟨_, hp9⟩ npw)
    have hr10 := f10.lst hr9 (out _ ⟨_, hr9⟩ nrw)
    have hd10 := f10.lst hd9 (out _ ⟨_, hd9⟩ ndw)
    have hz10 := f10.lst hz9 (out _ ⟨_, hz9⟩ nzw)
    have R10 := L9.R.keepN f10 L9.D.d4 L9.D.d5
    have w1p : pA ≠ wl1 := ne_of_none hp9 hw0
    have w1d : dA ≠ wl1 := ne_of_none hd9 hw0
    have w1z : zA ≠ wl1 := ne_of_none hz9 hw0
    have w1r : rl ≠ wl1 := ne_of_none L9.R.rl hw0
    have w1A : ∀ a ∈ A, a.1 ≠ wl1 ∧ a.2 ≠ wl1 := fun a ha => by
      obtain ⟨i, hi⟩ := List.getElem?_of_mem ha
      have hl : i < O.length := by rw [← L9.R.len]; exact (List.getElem?_eq_some_iff.mp hi).1
      obtain ⟨t1, t2⟩ := L9.R.it i a _ hi (List.getElem?_eq_getElem hl)
      exact ⟨ne_of_none t1 hw0, ne_of_none t2 hw0⟩
    have kln := kept_len (O := O) (F := F)
    have ksz : ∀ o ∈ kept O F, o.sl.length ≤ 39 := fun o ho => L9.sz o (kept_mem.mp ho).1
    have knn : ∀ o ∈ kept O F, 0 ≤ o.num := fun o ho => L9.nn o (kept_mem.mp ho).1
    have kfl := flat_len ksz
    have knm := kept_nums L9.G hF.1 lvF
    -- flat_here
    refine ⟨_, rfl, zA, rfl, ⟨_, SqL.of hz10⟩, fun D hD => ?_⟩
    refine lc_list (K := K) (a := zA) (xs := (Zl A O).map fun z => V.ref z.1.1) (fun i H' => H' = upd H10 D (.lst ((((Zl A O).take i).filter fun z => decide (z.2.num ∈ F)).map fun z => V.ref z.1.1))) rfl (fun i H' _ e => ?_) (fun i x H' hx e => ?_) (fun H' e => ?_)
    · subst e
      exact SqL.of (Fr.new (F := []) hD zA _ hz10 (by simp))
    · subst e
      rw [List.getElem?_map] at hx
      obtain ⟨z, hz, rfl⟩ := Option.map_eq_some_iff.mp hx
      obtain ⟨n, h1, h2, h3⟩ := Zl_get (List.mem_of_getElem? hz)
      have fD : Fr [] H10 (upd H10 D (.lst ((((Zl A O).take i).filter fun z => decide (z.2.num ∈ F)).map fun z => V.ref z.1.1))) := Fr.new hD
      obtain ⟨t1, t2⟩ := (R10.mono fD).it n z.1 z.2 h1 h2
      have lt := List.length_filter_le (fun z : (Addr × Addr) × Ob => decide (z.2.num ∈ F)) ((Zl A O).take i)
      rw [List.length_take] at lt
      refine ⟨rfl, ?_⟩
      refine ⟨_, rfl, Or.inl ⟨_, _, _, rfl, Or.inl (SqL.of t1), rfl, ?_⟩⟩
      refine ⟨_, rfl, Or.inl ⟨_, Or.inl (SqL.of (fD _ _ hd10 (by simp))), rfl, flat_ints _, ?_⟩⟩
      rw [in_ints]
      refine ⟨_, rfl, ?_⟩
      refine iteD (fun he => ?_) (fun he => ?_)
      · refine ⟨_, rfl, _, upd_same, by rw [List.length_map, sizeLine_eq]; omega, ?_⟩
        rw [upd_upd, take_filter_yes hz (decide_eq_true he), List.map_append]
        rfl
      · rw [take_filter_no hz (decide_eq_false he)]
    subst e
    rw [List.length_map, List.take_length]
    generalize eZ : ((Zl A O).filter fun z => decide (z.2.num ∈ F)) = ZF
    have memZ : ∀ z ∈ ZF, z ∈ Zl A O := fun z hz => by rw [← eZ] at hz; exact (List.mem_filter.mp hz).1
    have kZ : ZF.map (·.2) = kept O F := by
      rw [← eZ]
      unfold kept
      rw [← Zl_snd R10.len, List.filter_map]
      rfl
    have f11 : Fr [] H10 (upd H10 D (.lst (ZF.map fun z => V.ref z.1.1))) := Fr.new hD
    have hD11 : upd H10 D (.lst (ZF.map fun z => V.ref z.1.1)) D = some (.lst (ZF.map fun z => V.ref z.1.1)) := upd_same
    show tNil _ (upd H10 D (.lst (ZF.map fun z => V.ref z.1.1))) _
    generalize upd H10 D (.lst (ZF.map fun z => V.ref z.1.1)) = H11 at f11 hD11
    have R11 := R10.mono f11
    have RZ : RowAt H11 D (ZF.map (·.1)) (ZF.map (·.2)) := by
      refine ⟨by rw [List.map_map]; exact hD11, by rw [List.length_map, List.length_map], fun i a o ha ho => ?_⟩
      rw [List.getElem?_map] at ha ho
      obtain ⟨z, hz, rfl⟩ := Option.map_eq_some_iff.mp ha
      obtain ⟨z2, hz2, rfl⟩ := Option.map_eq_some_iff.mp ho
      rw [hz] at hz2
      cases hz2
      obtain ⟨n, h1, h2, h3⟩ := Zl_get (memZ z (List.mem_of_getElem? hz))
      exact R11.it n z.1 z.2 h1 h2
    refine ⟨D, _, _, rfl, RZ, by rw [kZ]; omega, fun FH H12 hFH0 hFH f12 => ?_⟩
    rw [kZ] at hFH
    have f12 := f11.trans f12
    have S12 := S10.keep f12 (by simp)
    have R12 := R10.mono f12
    have hp12 := f12 _ _ hp10 (by simp)
    have hr12 := f12 _ _ hr10 (by simp)
    have hd12 := f12 _ _ hd10 (by simp)
    have hz12 := f12 _ _ hz10 (by simp)
    have hT12 := hT10.ext fun b o e => f12 b o e (by simp)
    have w1f : FH ≠ wl1 := (ne_of_none (f11 _ _ S10.wl (by simp)) hFH0).symm
    -- told, the roots
    refine ⟨_, rfl, _, rfl, Or.inl ⟨_, Or.inl (SqL.of hz12), ?_⟩⟩
    rw [List.length_map]
    refine ⟨_, rfl, Or.inl ⟨_, Or.inl (SqL.of hd12), ?_⟩⟩
    rw [List.length_map]
    refine ⟨_, _, rfl, rfl, ?_⟩
    refine ⟨_, _, rfl, ?_⟩
    rw [zl, decide_eq_true rfl]
    refine ⟨_, rfl, iteF ?_⟩
    refine ⟨_, rfl, _, rfl, ?_⟩
    refine ⟨pA, rA, rs, rfl, hp12, hr12, by omega, ?_⟩
    refine ⟨_, rfl, iteF ?_⟩
    -- two turns
    refine ⟨fun σ _ => True, ?_, fun σ H' _ => k _⟩
    refine ⟨2, rfl, by decide, by decide, for_range (lo := 0) (n := 2) (fun i σ H' => ∃ (v11 v12 v13 : Option V) (wl2 pl2 : Addr) (kv : List (Key × V)) (lst : Int), σ = [some (.ref a), some (.ref cl), none, some (.ref st), some (.ref rl), some (.ref rA), some (.ref pA), some (.ref dA), some (.ref zA), some (.int (((O.filter (·.live)).length : Int) - (F.length : Int))), some (.ref FH), v11, v12, v13] ∧ StoreAt H' W.c_Store st dx wl2 pl2 100000 100000 lst (flat (kept O F)) kv ∧ Good (kept O F) kv lst ∧ LamX.TabS H' W.PT_Store_close_up qLam ∧ LsK wl1 H12 H' wl2)
      ⟨_, _, _, wl1, pl1, _, _, rfl, S12, G10, hT12, fun b xs e n => ⟨e, n⟩⟩ (fun i σ H13 hi hI => ?_) (fun σ H13 hI => trivial)⟩
    obtain ⟨v11, v12, v13, wl2, pl2, kv, lst, rfl, S13, G13, hT13, K13⟩ := hI
    have R13 := K13.row R12 w1r w1A
    obtain ⟨hp13, w2p⟩ := K13 _ _ hp12 w1p
    obtain ⟨hd13, w2d⟩ := K13 _ _ hd12 w1d
    obtain ⟨hz13, w2z⟩ := K13 _ _ hz12 w1z
    obtain ⟨hf13, w2f⟩ := K13 _ _ hFH w1f
    have kl13 := G13.kl
    have iff13 : ∀ n, (valV kv (.inl n)).isSome = true ↔ n ∈ F := fun n => (G13.iff n).trans (kept_iff lvF n)
    -- the words
    refine ⟨_, rfl, st, _, dx, _, _, rfl, S13.st, W.C_Store, W.na_Store_words, rfl, ?_⟩
    refine ⟨_, rfl, ?_⟩
    refine ⟨wl2, FH, flat (kept O F), rfl, S13.wl, hf13, by omega, ?_⟩
    refine ⟨_, rfl, iteF ?_⟩
    -- used
    refine ⟨_, rfl, st, dx, _, rfl, S13.st, rfl, ?_⟩
    refine ⟨st, dx, wl2, pl2, _, _, lst, _, kv, rfl, S13, ?_⟩
    refine ⟨_, rfl, Or.inl ⟨_, Or.inl (SqL.of hf13), ?_⟩⟩
    rw [List.length_map]
    refine ⟨_, _, rfl, ?_⟩
    rw [decide_eq_true rfl]
    refine ⟨_, rfl, iteF ?_⟩
    -- the numbers
    obtain ⟨ms, m1, m2⟩ := G13.ints
    refine ⟨_, rfl, st, dx, _, rfl, S13.st, rfl, ?_⟩
    refine ⟨st, dx, wl2, pl2, _, _, lst, _, kv, ms, rfl, S13, m1, fun n1 q1 pm1 ps1 hq1 => ?_⟩
    have en : n1 = F := sorted_eq (pm1.trans (m2.trans (by rw [kept_filter]; exact knm))) ps1 hF.2.2
    rw [en]
    have f14 : Fr [] H13 (upd H13 q1 (.lst (F.map V.int))) := Fr.new hq1
    have hq14 : upd H13 q1 (.lst (F.map V.int)) q1 = some (.lst (F.map V.int)) := upd_same
    generalize upd H13 q1 (.lst (F.map V.int)) = H14 at f14 hq14
    have S14 := S13.keep f14 (by simp)
    have hd14 := f14 _ _ hd13 (by simp)
    refine ⟨_, rfl, ?_⟩
    refine ⟨q1, dA, F, rfl, hq14, hd14, by omega, ?_⟩
    refine ⟨_, rfl, iteF ?_⟩
    -- the free number
    refine ⟨_, rfl, st, dx, _, rfl, S14.st, rfl, ?_⟩
    refine ⟨st, dx, wl2, pl2, _, _, lst, _, kv, rfl, S14, G13.seen, by omega, fun m H15 S15 f15 se15 hm => ?_⟩
    have f15 : Fr [st] H14 H15 := Fr.of (x := st) (y := st) (fun b h _ => f15 b h) (by simp) (by simp)
    have g15 : ∀ b xs, H13 b = some (.lst xs) → H15 b = some (.lst xs) := fun b xs e => f15 _ _ (f14 _ _ e (by simp)) (by
      intro h
      have h : b = st := by simpa using h
      rw [h, S13.st] at e; cases e)
    have hd15 := g15 _ _ hd13
    have hz15 := g15 _ _ hz13
    have hp15 := g15 _ _ hp13
    have R15 : RowAt H15 rl A O := ⟨g15 _ _ R13.rl, R13.len, fun i a o ha ho => ⟨g15 _ _ (R13.it i a o ha ho).1, g15 _ _ (R13.it i a o ha ho).2⟩⟩
    have hT15 := tab_out (hT13.ext fun b o e => f14 b o e (by simp)) f15 fun b hb => by
      have e : b = st := by simpa using hb
      rw [e]; exact ⟨_, S14.st, (by intro ps z; cases z), (by intro ps z; cases z)⟩
    have G15 : Good (kept O F) kv m := ⟨G13.val, G13.nd, G13.un, se15⟩
    refine ⟨_, rfl, ?_⟩
    refine ⟨dA, F, rfl, hd15, by omega, fun m2 c1 c2 c3 => ?_⟩
    have em : m = m2 := by
      have nm : m ∉ F := fun h => by
        have := (iff13 m).mpr h
        rw [hm] at this
        cases this
      have h1 : ¬ m < m2 := fun h => nm (c3 m se15.1 h)
      have h2 : ¬ m2 < m := fun h => c2 ((iff13 m2).mp (se15.2 m2 c1 h))
      omega
    refine ⟨_, _, rfl, ?_⟩
    rw [decide_eq_true em]
    refine ⟨_, rfl, iteF ?_⟩
    -- each of the living
    refine ⟨_, rfl, zA, rfl, ⟨_, SqL.of hz15⟩, ?_⟩
    refine for_list (K := K) (a := zA) (xs := (Zl A O).map fun z => V.ref z.1.1) (fun j σ H' => (∃ (u11 u13 : Option V), σ = [some (.ref a), some (.ref cl), none, some (.ref st), some (.ref rl), some (.ref rA), some (.ref pA), some (.ref dA), some (.ref zA), some (.int (((O.filter (·.live)).length : Int) - (F.length : Int))), some (.ref FH), u11, some (.int (0 + (i : Int))), u13]) ∧ Fr [] H15 H') ⟨⟨_, _, rfl⟩, Fr.rfl'⟩ (fun j σ H' _ e => SqL.of (e.2 _ _ hz15 (by simp))) (fun j x σ H16 hx e => ?_) (fun σ H16 e => ?_)
    · obtain ⟨⟨u11, u13, rfl⟩, f16⟩ := e
      have S16 := S15.keep f16 (by simp)
      have R16 := R15.mono f16
      have hd16 := f16 _ _ hd15 (by simp)
      rw [List.getElem?_map] at hx
      obtain ⟨z, hz, rfl⟩ := Option.map_eq_some_iff.mp hx
      obtain ⟨n, h1, h2, h3⟩ := Zl_get (List.mem_of_getElem? hz)
      obtain ⟨t1, t2⟩ := R16.it n z.1 z.2 h1 h2
      have s39 := L9.sz _ (List.mem_of_getElem? h2)
      have eb : (valV kv (.inl z.2.num)).isSome = decide (z.2.num ∈ F) := by
        by_cases q : z.2.num ∈ F
        · rw [(iff13 _).mpr q, decide_eq_true q]
        · rw [decide_eq_false q]
          cases e : (valV kv (.inl z.2.num)).isSome with
          | false => rfl
          | true => exact absurd ((iff13 _).mp e) q
      refine ⟨_, rfl, st, dx, _, rfl, S16.st, rfl, ?_⟩
      refine ⟨_, rfl, Or.inl ⟨_, _, _, rfl, Or.inl (SqL.of t1), rfl, ?_⟩⟩
      refine ⟨st, dx, wl2, pl2, _, _, m, _, kv, z.2.num, rfl, S16, ?_⟩
      rw [eb]
      refine ⟨_, rfl, ?_⟩
      refine ⟨_, _, _, _, _, rfl, ClsV.ty _, TyX.base (TyOf.bl _), kt_bool_bool, ?_⟩
      refine ⟨_, rfl, iteF ?_⟩
      refine ⟨_, rfl, ?_⟩
      refine ⟨_, rfl, Or.inl ⟨_, _, _, rfl, Or.inl (SqL.of t1), rfl, ?_⟩⟩
      refine ⟨_, rfl, Or.inl ⟨_, Or.inl (SqL.of hd16), rfl, flat_ints _, ?_⟩⟩
      rw [in_ints]
      refine ⟨rfl, _, rfl, ?_⟩
      refine iteND (fun h => absurd rfl h) (fun _ => ?_)
      refine ⟨_, rfl, Or.inl ⟨_, _, _, rfl, Or.inl (SqL.of t1), rfl, ?_⟩⟩
      refine ⟨_, rfl, Or.inl ⟨_, Or.inl (SqL.of hd16), rfl, flat_ints _, ?_⟩⟩
      rw [in_ints]
      refine ⟨_, rfl, ?_⟩
      refine iteD (fun hin => ?_) (fun _ => ⟨⟨_, _, rfl⟩, f16⟩)
      obtain ⟨jj, hj⟩ := List.getElem?_of_mem (kept_mem.mpr ⟨List.mem_of_getElem? h2, h3, hin⟩)
      refine ⟨_, rfl, st, dx, _, rfl, S16.st, rfl, ?_⟩
      refine ⟨_, rfl, Or.inl ⟨_, _, _, rfl, Or.inl (SqL.of t1), rfl, ?_⟩⟩
      refine ⟨st, dx, wl2, pl2, _, _, m, _, kv, z.2.num, off (kept O F) jj, z.2.sl.length, rfl, S16, G15.at hj h3, flat_size hj, off_lt hj, fun q hq => ?_⟩
      rw [flat_slots hj]
      have f17 : Fr [] H16 (upd H16 q (.lst (z.2.sl.map V.int))) := Fr.new hq
      refine ⟨_, rfl, Or.inl ⟨_, _, _, rfl, Or.inl (SqL.of (f17 _ _ t1 (by simp))), rfl, ?_⟩⟩
      refine ⟨q, z.1.2, z.2.sl, rfl, upd_same, f17 _ _ t2 (by simp), by omega, ?_⟩
      refine ⟨_, rfl, iteF ?_⟩
      exact ⟨⟨_, _, rfl⟩, f16.trans f17⟩
    obtain ⟨⟨u11, u13, rfl⟩, f16⟩ := e
    have S16 := S15.keep f16 (by simp)
    have hp16 := f16 _ _ hp15 (by simp)
    have hT16 := hT15.ext fun b o e => f16 b o e (by simp)
    have g16 : ∀ b xs, H13 b = some (.lst xs) → H16 b = some (.lst xs) := fun b xs e => f16 _ _ (g15 b xs e) (by simp)
    refine ⟨_, rfl, rfl, _, rfl, ?_⟩
    refine ite_eq (I_dec _ _) (iteD (fun h0 => ?_) (fun _ => ?_))
    · refine ⟨_, rfl, _, rfl, ?_⟩
      refine ⟨st, dx, wl2, pl2, _, _, m, kept O F, kv, pA, rs, rfl, S16, G15, ksz, knn, by omega, hp16, hrs, hT16, fun F3 H18 wl3 pl3 m3 nd3 hF3 S18 G18 hT18 f18 hw3 hpl3 => ?_⟩
      have p3 : F3.Perm F := perm_of nd3 hF.1 fun n => (hF3 n).trans (kept_reach hF.2.1 n)
      have e3 : kept (kept O F) F3 = kept O F := by
        rw [kept_cong fun n => p3.mem_iff]
        show ((kept O F).filter (·.live)).filter _ = _
        rw [kept_filter]
        exact List.filter_eq_self.mpr fun o ho => decide_eq_true (kept_mem.mp ho).2.2
      rw [e3] at S18 G18
      refine ⟨_, _, rfl, ?_⟩
      rw [decide_eq_true (by
        rw [kept_filter, p3.length_eq]
        have := knm.length_eq
        rw [List.length_map] at this
        omega)]
      refine ⟨_, rfl, iteF ?_⟩
      refine ⟨_, _, _, wl3, pl3, _, _, rfl, S18, G18, hT18, fun b xs e n => ?_⟩
      obtain ⟨b1, b2⟩ := K13 b xs e n
      have b3 := g16 _ _ b1
      refine ⟨f18.lst b3 fun h => ?_, ne_of_none b3 hw3⟩
      simp only [List.mem_cons, List.not_mem_nil, or_false] at h
      rcases h with h | h | h
      · rw [h, S16.st] at b3; cases b3
      · exact b2 h
      · rw [h, S16.pl] at b3; cases b3
    · refine ⟨_, _, _, wl2, pl2, _, _, rfl, S16, G15, hT16, fun b xs e n => ?_⟩
      obtain ⟨b1, b2⟩ := K13 b xs e n
      exact ⟨g16 _ _ b1, b2⟩
end

end LX
namespace LX
open PySem PySem.Spec PyProof.Rows L2 NdefX

theorem all_mk {l : PySem.W.OpenLaw} {w : World} {K : PySem.W.Frag} {mg : Str → Option Value} {fa : Addr} {h : Heap} (W : Wd l.prog K mg) (hfa : mg "law" = some (.ref fa)) (KX : K.In h) (hP : h.get? W.PT_Store_close_up = some { cls := .none, data := .fields #[] }) :
    LamX.LawAtS l w K CX0 5 63 "_law_script" mg fa h := by
  have e := hfa.symm.trans W.g_law
  cases e
  obtain ⟨oc, od, kV, doc, pm, an, cdv, ct, osl, e, _, _⟩ := W.F_law.ex
  refine ⟨W.fd_law, [(W.cA_Store_close_up, W.PT_Store_close_up)], sp_law5 K W.PT_Store_close_up, fun p hp => ?_, fun p hp => ?_, fun p hp => ?_, fun s v => by rw [e]; exact .of_eq rfl, fun H a ns hl _ hT hS => ⟨a, ns, rfl, hS, hl, LamX.TabS.nil (hT _ (List.mem_singleton.mpr rfl)), fun _ => rfl⟩, fun base _ _ hTB => ok_law ⟨W, hTB _ (List.mem_singleton.mpr rfl)⟩⟩
  · cases List.mem_singleton.mp hp; exact hP
  · cases List.mem_singleton.mp hp; exact W.np_Store_close_up
  · cases List.mem_singleton.mp hp; exact PySem.W.codeHd_of_K KX W.hd_Store_close_up
theorem walk {l : PySem.W.OpenLaw} {q : Program} {loose : List Str} {XP : (Str → Option Value) → Heap → Prop} {YP : World → Heap → Prop} {d : DefRec} {K : Params → PySem.W.Frag} (hn : l.most = some 63) (hdf : d.params.defaults = [])
    (hY : ∀ (w : World) (h : Heap), YP w h → (K w.params).In h)
    (F : ∀ (w : World) (mg : Str → Option Value) (fa : Addr) (h : Heap), YP w h → (K w.params).In h → h.Ns mainGlobals mg → mg d.name = some (.ref fa) → LamX.LawAtS l w (K w.params) CX0 5 63 "_law_script" mg fa h) :
    PySem.W.WalkO q loose XP YP l.row.toRowW d [] (fun f vs => PySem.call f vs) :=
  LamX.walk_ofTs (n := 63) (k := 5) (x := "_law_script") (CX := fun _ => CX0) hn (by decide) hdf ⟨rfl, by decide, by decide⟩ hY F fun _ _ _ _ _ z => z

end LX

open PySem PySem.W PyProof.Rows
set_option maxRecDepth 100000 in
set_option maxHeartbeats 0 in
theorem PySem.Challenge.cw_saggar_k05_collect_keeps_the_reached_holds : PySem.Challenge.rw_saggar_k05_collect_keeps_the_reached.Holds := by
  w_on; o_law; k_head; (case hw => w_witness2)
  k_fill
  refine LX.walk (l := PySem.Challenge.rw_saggar_k05_collect_keeps_the_reached) rfl rfl (fun w h Y => PySem.W.km_in_of Y) ?F
  case F =>
    intro w mg fa h Y KX G hmg
    refine' LX.all_mk (l := PySem.Challenge.rw_saggar_k05_collect_keeps_the_reached) (LX.mkW KX G ?z_bool ?z_int ?z_isinstance ?z_len ?z_list ?z_min ?z_range ?z_sorted ?c_NIL ?c_HEADER ?cl_Store ?pg_Store ?hd_Store ?po_Store ?sa_Store ?mk_Store ?kp_Store ?na_Store_room ?na_Store_entries ?na_Store_words ?na_Store__places ?na_Store__least ?a_is_ref ?l_is_ref ?c_is_ref ?k_is_ref ?a_ref_of ?l_ref_of ?c_ref_of ?k_ref_of ?a_reached ?l_reached ?c_reached ?k_reached ?a_collect ?l_collect ?c_collect ?k_collect ?a_Store___init__ ?l_Store___init__ ?c_Store___init__ ?k_Store___init__ ?fn_Store___init__ ?a_Store_used ?l_Store_used ?c_Store_used ?k_Store_used ?fn_Store_used ?a_Store_exists ?l_Store_exists ?c_Store_exists ?k_Store_exists ?fn_Store_exists ?a_Store_numbers ?l_Store_numbers ?c_Store_numbers ?k_Store_numbers ?fn_Store_numbers ?a_Store_free_number ?l_Store_free_number ?c_Store_free_number ?k_Store_free_number ?fn_Store_free_number ?a_Store_allocate ?l_Store_allocate ?c_Store_allocate ?k_Store_allocate ?fn_Store_allocate ?a_Store_size ?l_Store_size ?c_Store_size ?k_Store_size ?fn_Store_size ?a_Store_kind ?l_Store_kind ?c_Store_kind ?k_Store_kind ?fn_Store_kind ?a_Store_set_kind ?l_Store_set_kind ?c_Store_set_kind ?k_Store_set_kind ?fn_Store_set_kind ?a_Store_put ?l_Store_put ?c_Store_put ?k_Store_put ?fn_Store_put ?a_Store_slots ?l_Store_slots ?c_Store_slots ?k_Store_slots ?fn_Store_slots ?a_Store_drop ?l_Store_drop ?c_Store_drop ?k_Store_drop ?fn_Store_drop ?a_Store_close_up ?l_Store_close_up ?c_Store_close_up ?k_Store_close_up ?x1_Store_close_up ?x2_Store_close_up ?x3_Store_close_up ?x4_Store_close_up ?fn_Store_close_up ?a_Store_exchange ?l_Store_exchange ?c_Store_exchange ?k_Store_exchange ?fn_Store_exchange ?a__law_number ?l__law_number ?c__law_number ?k__law_number ?a__law_word ?l__law_word ?c__law_word ?k__law_word ?a__law_is ?l__law_is ?c__law_is ?k__law_is ?a__law_same ?l__law_same ?c__law_same ?k__law_same ?a__law_living ?l__law_living ?c__law_living ?k__law_living ?a__law_flat ?l__law_flat ?c__law_flat ?k__law_flat ?a__law_grown ?l__law_grown ?c__law_grown ?k__law_grown ?a__law_linked ?l__law_linked ?c__law_linked ?k__law_linked ?a__law_chained ?l__law_chained ?c__law_chained ?k__law_chained ?a__law_built ?l__law_built ?c__law_built ?k__law_built ?a__law_due ?l__law_due ?c__law_due ?k__law_due ?a__law_roots ?l__law_roots ?c__law_roots ?k__law_roots ?a__law_free ?l__law_free ?c__law_free ?k__law_free ?a_law ?l_law ?c_law ?k_law) hmg KX ?hP
    (case z_bool => first | k_is | ks_is | rfl | decide +kernel)
    (case z_int => first | k_is | ks_is | rfl | decide +kernel)
    (case z_isinstance => first | k_is | ks_is | rfl | decide +kernel)
    (case z_len => first | k_is | ks_is | rfl | decide +kernel)
    (case z_list => first | k_is | ks_is | rfl | decide +kernel)
    (case z_min => first | k_is | ks_is | rfl | decide +kernel)
    (case z_range => first | k_is | ks_is | rfl | decide +kernel)
    (case z_sorted => first | k_is | ks_is | rfl | decide +kernel)
    (case c_NIL => first | k_is | ks_is | rfl | decide +kernel)
    (case c_HEADER => first | k_is | ks_is | rfl | decide +kernel)
    (case cl_Store => first | k_is | ks_is | rfl | decide +kernel)
    (case pg_Store => first | k_is | ks_is | rfl | decide +kernel)
    (case hd_Store => first | k_is | ks_is | rfl | decide +kernel)
    (case po_Store => first | k_is | ks_is | rfl | decide +kernel)
    (case sa_Store => first | k_is | ks_is | rfl | decide +kernel)
    (case mk_Store => first | k_is | ks_is | rfl | decide +kernel)
    (case kp_Store => first | k_is | ks_is | rfl | decide +kernel)
    (case na_Store_room => first | k_is | ks_is | rfl | decide +kernel)
    (case na_Store_entries => first | k_is | ks_is | rfl | decide +kernel)
    (case na_Store_words => first | k_is | ks_is | rfl | decide +kernel)
    (case na_Store__places => first | k_is | ks_is | rfl | decide +kernel)
    (case na_Store__least => first | k_is | ks_is | rfl | decide +kernel)
    (case a_is_ref => first | k_is | ks_is | rfl | decide +kernel)
    (case l_is_ref => first | k_is | ks_is | rfl | decide +kernel)
    (case c_is_ref => first | k_is | ks_is | rfl | decide +kernel)
    (case k_is_ref => first | k_is | ks_is | rfl | decide +kernel)
    (case a_ref_of => first | k_is | ks_is | rfl | decide +kernel)
    (case l_ref_of => first | k_is | ks_is | rfl | decide +kernel)
    (case c_ref_of => first | k_is | ks_is | rfl | decide +kernel)
    (case k_ref_of => first | k_is | ks_is | rfl | decide +kernel)
    (case a_reached => first | k_is | ks_is | rfl | decide +kernel)
    (case l_reached => first | k_is | ks_is | rfl | decide +kernel)
    (case c_reached => first | k_is | ks_is | rfl | decide +kernel)
    (case k_reached => first | k_is | ks_is | rfl | decide +kernel)
    (case a_collect => first | k_is | ks_is | rfl | decide +kernel)
    (case l_collect => first | k_is | ks_is | rfl | decide +kernel)
    (case c_collect => first | k_is | ks_is | rfl | decide +kernel)
    (case k_collect => first | k_is | ks_is | rfl | decide +kernel)
    (case a_Store___init__ => first | k_is | ks_is | rfl | decide +kernel)
    (case l_Store___init__ => first | k_is | ks_is | rfl | decide +kernel)
    (case c_Store___init__ => first | k_is | ks_is | rfl | decide +kernel)
    (case k_Store___init__ => first | k_is | ks_is | rfl | decide +kernel)
    (case fn_Store___init__ => first | k_is | ks_is | rfl | decide +kernel)
    (case a_Store_used => first | k_is | ks_is | rfl | decide +kernel)
    (case l_Store_used => first | k_is | ks_is | rfl | decide +kernel)
    (case c_Store_used => first | k_is | ks_is | rfl | decide +kernel)
    (case k_Store_used => first | k_is | ks_is | rfl | decide +kernel)
    (case fn_Store_used => first | k_is | ks_is | rfl | decide +kernel)
    (case a_Store_exists => first | k_is | ks_is | rfl | decide +kernel)
    (case l_Store_exists => first | k_is | ks_is | rfl | decide +kernel)
    (case c_Store_exists => first | k_is | ks_is | rfl | decide +kernel)
    (case k_Store_exists => first | k_is | ks_is | rfl | decide +kernel)
    (case fn_Store_exists => first | k_is | ks_is | rfl | decide +kernel)
    (case a_Store_numbers => first | k_is | ks_is | rfl | decide +kernel)
    (case l_Store_numbers => first | k_is | ks_is | rfl | decide +kernel)
    (case c_Store_numbers => first | k_is | ks_is | rfl | decide +kernel)
    (case k_Store_numbers => first | k_is | ks_is | rfl | decide +kernel)
    (case fn_Store_numbers => first | k_is | ks_is | rfl | decide +kernel)
    (case a_Store_free_number => first | k_is | ks_is | rfl | decide +kernel)
    (case l_Store_free_number => first | k_is | ks_is | rfl | decide +kernel)
    (case c_Store_free_number => first | k_is | ks_is | rfl | decide +kernel)
    (case k_Store_free_number => first | k_is | ks_is | rfl | decide +kernel)
    (case fn_Store_free_number => first | k_is | ks_is | rfl | decide +kernel)
    (case a_Store_allocate => first | k_is | ks_is | rfl | decide +kernel)
    (case l_Store_allocate => first | k_is | ks_is | rfl | decide +kernel)
    (case c_Store_allocate => first | k_is | ks_is | rfl | decide +kernel)
    (case k_Store_allocate => first | k_is | ks_is | rfl | decide +kernel)
    (case fn_Store_allocate => first | k_is | ks_is | rfl | decide +kernel)
    (case a_Store_size => first | k_is | ks_is | rfl | decide +kernel)
    (case l_Store_size => first | k_is | ks_is | rfl | decide +kernel)
    (case c_Store_size => first | k_is | ks_is | rfl | decide +kernel)
    (case k_Store_size => first | k_is | ks_is | rfl | decide +kernel)
    (case fn_Store_size => first | k_is | ks_is | rfl | decide +kernel)
    (case a_Store_kind => first | k_is | ks_is | rfl | decide +kernel)
    (case l_Store_kind => first | k_is | ks_is | rfl | decide +kernel)
    (case c_Store_kind => first | k_is | ks_is | rfl | decide +kernel)
    (case k_Store_kind => first | k_is | ks_is | rfl | decide +kernel)
    (case fn_Store_kind => first | k_is | ks_is | rfl | decide +kernel)
    (case a_Store_set_kind => first | k_is | ks_is | rfl | decide +kernel)
    (case l_Store_set_kind => first | k_is | ks_is | rfl | decide +kernel)
    (case c_Store_set_kind => first | k_is | ks_is | rfl | decide +kernel)
    (case k_Store_set_kind => first | k_is | ks_is | rfl | decide +kernel)
    (case fn_Store_set_kind => first | k_is | ks_is | rfl | decide +kernel)
    (case a_Store_put => first | k_is | ks_is | rfl | decide +kernel)
    (case l_Store_put => first | k_is | ks_is | rfl | decide +kernel)
    (case c_Store_put => first | k_is | ks_is | rfl | decide +kernel)
    (case k_Store_put => first | k_is | ks_is | rfl | decide +kernel)
    (case fn_Store_put => first | k_is | ks_is | rfl | decide +kernel)
    (case a_Store_slots => first | k_is | ks_is | rfl | decide +kernel)
    (case l_Store_slots => first | k_is | ks_is | rfl | decide +kernel)
    (case c_Store_slots => first | k_is | ks_is | rfl | decide +kernel)
    (case k_Store_slots => first | k_is | ks_is | rfl | decide +kernel)
    (case fn_Store_slots => first | k_is | ks_is | rfl | decide +kernel)
    (case a_Store_drop => first | k_is | ks_is | rfl | decide +kernel)
    (case l_Store_drop => first | k_is | ks_is | rfl | decide +kernel)
    (case c_Store_drop => first | k_is | ks_is | rfl | decide +kernel)
    (case k_Store_drop => first | k_is | ks_is | rfl | decide +kernel)
    (case fn_Store_drop => first | k_is | ks_is | rfl | decide +kernel)
    (case a_Store_close_up => first | k_is | ks_is | rfl | decide +kernel)
    (case l_Store_close_up => first | k_is | ks_is | rfl | decide +kernel)
    (case c_Store_close_up => first | k_is | ks_is | rfl | decide +kernel)
    (case k_Store_close_up => first | k_is | ks_is | rfl | decide +kernel)
    (case x1_Store_close_up => first | k_is | ks_is | rfl | decide +kernel)
    (case x2_Store_close_up => first | k_is | ks_is | rfl | decide +kernel)
    (case x3_Store_close_up => first | k_is | ks_is | rfl | decide +kernel)
    (case x4_Store_close_up => first | k_is | ks_is | rfl | decide +kernel)
    (case fn_Store_close_up => first | k_is | ks_is | rfl | decide +kernel)
    (case a_Store_exchange => first | k_is | ks_is | rfl | decide +kernel)
    (case l_Store_exchange => first | k_is | ks_is | rfl | decide +kernel)
    (case c_Store_exchange => first | k_is | ks_is | rfl | decide +kernel)
    (case k_Store_exchange => first | k_is | ks_is | rfl | decide +kernel)
    (case fn_Store_exchange => first | k_is | ks_is | rfl | decide +kernel)
    (case a__law_number => first | k_is | ks_is | rfl | decide +kernel)
    (case l__law_number => first | k_is | ks_is | rfl | decide +kernel)
    (case c__law_number => first | k_is | ks_is | rfl | decide +kernel)
    (case k__law_number => first | k_is | ks_is | rfl | decide +kernel)
    (case a__law_word => first | k_is | ks_is | rfl | decide +kernel)
    (case l__law_word => first | k_is | ks_is | rfl | decide +kernel)
    (case c__law_word => first | k_is | ks_is | rfl | decide +kernel)
    (case k__law_word => first | k_is | ks_is | rfl | decide +kernel)
    (case a__law_is => first | k_is | ks_is | rfl | decide +kernel)
    (case l__law_is => first | k_is | ks_is | rfl | decide +kernel)
    (case c__law_is => first | k_is | ks_is | rfl | decide +kernel)
    (case k__law_is => first | k_is | ks_is | rfl | decide +kernel)
    (case a__law_same => first | k_is | ks_is | rfl | decide +kernel)
    (case l__law_same => first | k_is | ks_is | rfl | decide +kernel)
    (case c__law_same => first | k_is | ks_is | rfl | decide +kernel)
    (case k__law_same => first | k_is | ks_is | rfl | decide +kernel)
    (case a__law_living => first | k_is | ks_is | rfl | decide +kernel)
    (case l__law_living => first | k_is | ks_is | rfl | decide +kernel)
    (case c__law_living => first | k_is | ks_is | rfl | decide +kernel)
    (case k__law_living => first | k_is | ks_is | rfl | decide +kernel)
    (case a__law_flat => first | k_is | ks_is | rfl | decide +kernel)
    (case l__law_flat => first | k_is | ks_is | rfl | decide +kernel)
    (case c__law_flat => first | k_is | ks_is | rfl | decide +kernel)
    (case k__law_flat => first | k_is | ks_is | rfl | decide +kernel)
    (case a__law_grown => first | k_is | ks_is | rfl | decide +kernel)
    (case l__law_grown => first | k_is | ks_is | rfl | decide +kernel)
    (case c__law_grown => first | k_is | ks_is | rfl | decide +kernel)
    (case k__law_grown => first | k_is | ks_is | rfl | decide +kernel)
    (case a__law_linked => first | k_is | ks_is | rfl | decide +kernel)
    (case l__law_linked => first | k_is | ks_is | rfl | decide +kernel)
    (case c__law_linked => first | k_is | ks_is | rfl | decide +kernel)
    (case k__law_linked => first | k_is | ks_is | rfl | decide +kernel)
    (case a__law_chained => first | k_is | ks_is | rfl | decide +kernel)
    (case l__law_chained => first | k_is | ks_is | rfl | decide +kernel)
    (case c__law_chained => first | k_is | ks_is | rfl | decide +kernel)
    (case k__law_chained => first | k_is | ks_is | rfl | decide +kernel)
    (case a__law_built => first | k_is | ks_is | rfl | decide +kernel)
    (case l__law_built => first | k_is | ks_is | rfl | decide +kernel)
    (case c__law_built => first | k_is | ks_is | rfl | decide +kernel)
    (case k__law_built => first | k_is | ks_is | rfl | decide +kernel)
    (case a__law_due => first | k_is | ks_is | rfl | decide +kernel)
    (case l__law_due => first | k_is | ks_is | rfl | decide +kernel)
    (case c__law_due => first | k_is | ks_is | rfl | decide +kernel)
    (case k__law_due => first | k_is | ks_is | rfl | decide +kernel)
    (case a__law_roots => first | k_is | ks_is | rfl | decide +kernel)
    (case l__law_roots => first | k_is | ks_is | rfl | decide +kernel)
    (case c__law_roots => first | k_is | ks_is | rfl | decide +kernel)
    (case k__law_roots => first | k_is | ks_is | rfl | decide +kernel)
    (case a__law_free => first | k_is | ks_is | rfl | decide +kernel)
    (case l__law_free => first | k_is | ks_is | rfl | decide +kernel)
    (case c__law_free => first | k_is | ks_is | rfl | decide +kernel)
    (case k__law_free => first | k_is | ks_is | rfl | decide +kernel)
    (case a_law => first | k_is | ks_is | rfl | decide +kernel)
    (case l_law => first | k_is | ks_is | rfl | decide +kernel)
    (case c_law => first | k_is | ks_is | rfl | decide +kernel)
    (case k_law => first | k_is | ks_is | rfl | decide +kernel)
    (case hP => exact PySem.W.km_tabs_of Y _ (by first | k_mem | simp))
    all_goals exact PySem.Value.none

import PyProof.Rows.All
import Wide.All
import OpenK.AllK
import Wide.FinOn
import KE.KExcSuper
import HandS.ForMost
import HandS.ForExc
import HandS.ExcInit
import HandS.Nested
import HandS.Flow
import HandS.IsInst
import HandS.Wide
import HandS.StrMore
import HandS.RaiseMore
import HandS.TupAny
import HandS.Style
import HandS.NoneIn
import HandS.Conv
import HandS.Deep
import HandS.Small
import HandS.Evl
import HandS.SortInts
import HandS.More
import HandS.Lambda
import HandS.EndTab
import KE.SortKeyHeap
import KE.SortData
import KE.KSortKey
import HandS.Rev
import PySem.Challenge.RW_saggar_k03_exchange_by_numbers
set_option Elab.async false
set_option linter.all false
set_option maxRecDepth 100000
set_option maxHeartbeats 4000000
/-! universal rules: by the values' constructors -/
namespace LX
open PySem PySem.Spec PyProof.Rows L2
section
variable {X : Cx}
/-! ### operators -/
def rAddU (K : PySem.W.Frag) : R2 := fun x y H Q => match x, y with
  | .int i, .int j => Q (.int (i + j)) H
  | .str i, .str j => i.length + j.length ≤ sizeLine ∧ Q (.str (i ++ j)) H
  | .ref a, .ref b => rCat (.ref a) (.ref b) H Q ∨ rCatA K (.ref a) (.ref b) H Q
  | _, _ => False
theorem op_addU : OpR X (binaryOp .Add) (rAddU X.K) := by
  intro pins s σ H x y v u Q I rx ry h
  unfold rAddU at h
  split at h
  · exact op_add pins s σ H _ _ v u Q I rx ry ⟨_, _, rfl, rfl, h⟩
  · exact op_add_str pins s σ H _ _ v u Q I rx ry ⟨_, _, rfl, rfl, h.1, h.2⟩
  · rcases h with h | h
    · exact op_cat pins s σ H _ _ v u Q I rx ry h
    · exact op_catA pins s σ H _ _ v u Q I rx ry h
  · exact h.elim
def rMulU : R2 := fun x y H Q => match x, y with
  | .int i, .int j => CMul i j ∧ Q (.int (i * j)) H
  | .ref a, .int j => rRep (.ref a) (.int j) H Q
  | _, _ => False
theorem op_mulU : OpR X (binaryOp .Mult) rMulU := by
  intro pins s σ H x y v u Q I rx ry h
  unfold rMulU at h
  split at h
  · exact op_mul pins s σ H _ _ v u Q I rx ry ⟨_, _, rfl, rfl, h.1, h.2⟩
  · exact op_rep pins s σ H _ _ v u Q I rx ry h
  · exact h.elim
/-- an order by ints, by texts -/
def rOrd (f : Int → Int → Bool) (g : List Nat → List Nat → Bool) : R2 := fun x y H Q => match x, y with
  | .int i, .int j => Q (.bl (f i j)) H
  | .str i, .str j => Q (.bl (g i.cps.toList j.cps.toList)) H
  | _, _ => False
abbrev rLtU : R2 := rOrd (fun i j => decide (i < j)) (fun i j => decide (i < j))
abbrev rLeU : R2 := rOrd (fun i j => decide (i ≤ j)) (fun i j => !decide (j < i))
abbrev rGtU : R2 := rOrd (fun i j => decide (j < i)) (fun i j => decide (j < i))
abbrev rGeU : R2 := rOrd (fun i j => decide (j ≤ i)) (fun i j => !decide (i < j))
theorem op_ltU : OpR X (compareOp .Lt) rLtU := by
  intro pins s σ H x y v u Q I rx ry h
  unfold rLtU rOrd at h
  split at h
  · exact op_lt pins s σ H _ _ v u Q I rx ry ⟨_, _, rfl, rfl, h⟩
  · exact op_lt_str pins s σ H _ _ v u Q I rx ry ⟨_, _, rfl, rfl, h⟩
  · exact h.elim
theorem op_leU : OpR X (compareOp .LtE) rLeU := by
  intro pins s σ H x y v u Q I rx ry h
  unfold rLeU rOrd at h
  split at h
  · exact op_le pins s σ H _ _ v u Q I rx ry ⟨_, _, rfl, rfl, h⟩
  · exact op_le_str pins s σ H _ _ v u Q I rx ry ⟨_, _, rfl, rfl, h⟩
  · exact h.elim
theorem op_gtU : OpR X (compareOp .Gt) rGtU := by
  intro pins s σ H x y v u Q I rx ry h
  unfold rGtU rOrd at h
  split at h
  · exact op_gt pins s σ H _ _ v u Q I rx ry ⟨_, _, rfl, rfl, h⟩
  · exact op_gt_str pins s σ H _ _ v u Q I rx ry ⟨_, _, rfl, rfl, h⟩
  · exact h.elim
theorem op_geU : OpR X (compareOp .GtE) rGeU := by
  intro pins s σ H x y v u Q I rx ry h
  unfold rGeU rOrd at h
  split at h
  · exact op_ge pins s σ H _ _ v u Q I rx ry ⟨_, _, rfl, rfl, h⟩
  · exact op_ge_str pins s σ H _ _ v u Q I rx ry ⟨_, _, rfl, rfl, h⟩
  · exact h.elim
/-- ==, != : two objects (deep), else by value -/
def rEqU (K : PySem.W.Frag) (g : Bool → Bool) : R2 := fun x y H Q => match x, y with
  | .ref a, .ref b => ∃ d e, Dp K H (.ref a) d ∧ Dp K H (.ref b) e ∧ SeqAt.shaped d = true ∧ SeqAt.shaped e = true ∧ Q (.bl (g (PyData.eqv d e))) H
  | x, y => scal x y = true ∧ Q (.bl (g (decide (x = y)))) H
theorem op_eqU (hu : X.A.units + 64 < cLine) : OpR X (compareOp .Eq) (rEqU X.K id) := by
  intro pins s σ H x y v u Q I rx ry h
  unfold rEqU at h
  split at h
  · exact op_eqD hu pins s σ H _ _ v u Q I rx ry h
  · exact op_eq pins s σ H _ _ v u Q I rx ry h
theorem op_neU (hu : X.A.units + 64 < cLine) : OpR X (compareOp .NotEq) (rEqU X.K (!·)) := by
  intro pins s σ H x y v u Q I rx ry h
  unfold rEqU at h
  split at h
  · exact op_neD hu pins s σ H _ _ v u Q I rx ry h
  · exact op_ne pins s σ H _ _ v u Q I rx ry h
/-- x is None, True, False -/
def rIsU (g : Bool → Bool) : R2 := fun x y H Q => match y with
  | .non => Q (.bl (g (decide (x = .non)))) H
  | .bl b => Q (.bl (g (decide (x = .bl b)))) H
  | _ => False
theorem op_isU : OpR X (compareOp .Is) (rIsU id) := by
  intro pins s σ H x y v u Q I rx ry h
  unfold rIsU at h
  split at h
  · exact op_isN pins s σ H _ _ v u Q I rx ry ⟨rfl, h⟩
  · rename_i b
    cases (show u = Value.bool b from ry)
    by_cases e : x = .bl b
    · subst e
      cases (show v = Value.bool b from rx)
      exact wpAny_is_self rfl ⟨.bl true, H, I, rfl, by simpa using h⟩
    · refine wpAny_is_other ?_ ?_ ⟨.bl false, H, I, rfl, by simpa [e] using h⟩
      · first | rfl | (cases x <;> first | rfl | (cases rx; rfl) | (obtain ⟨t, rfl⟩ := rx; rfl))
      · intro z
        subst z
        exact e (RelV.inj rx rfl)
  · exact h.elim
theorem op_isnotU : OpR X (compareOp .IsNot) (rIsU (!·)) := by
  intro pins s σ H x y v u Q I rx ry h
  unfold rIsU at h
  split at h
  · exact op_notN pins s σ H _ _ v u Q I rx ry ⟨rfl, h⟩
  · rename_i b
    cases (show u = Value.bool b from ry)
    by_cases e : x = .bl b
    · subst e
      cases (show v = Value.bool b from rx)
      exact wpAny_isNot_self rfl ⟨.bl false, H, I, rfl, by simpa using h⟩
    · refine wpAny_isNot_other ?_ ?_ ⟨.bl true, H, I, rfl, by simpa [e] using h⟩
      · first | rfl | (cases x <;> first | rfl | (cases rx; rfl) | (obtain ⟨t, rfl⟩ := rx; rfl))
      · intro z
        subst z
        exact e (RelV.inj rx rfl)
  · exact h.elim
/-! ### subscripts, slices, in -/
def rIxU (K : PySem.W.Frag) : R2 := fun x y H Q => match x with
  | .str z => ∃ i c, y = .int i ∧ z.length ≤ sizeLine ∧ atI z.cps.toList i = some c ∧ Q (.str ⟨#[c]⟩) H
  | .ref p => (∃ xs i v, y = .int i ∧ (SqL K H p xs ∨ SqT K H p xs) ∧ atI xs i = some v ∧ Q v H) ∨ (∃ v, DGet H p y (some v) ∧ Q v H)
  | _ => False
theorem ix_U (hu : X.A.units + 1 < cLine) : IxR X (rIxU X.K) := by
  intro value slice pins s σ H x y v u Q I rx ry h hs
  unfold rIxU at h
  split at h
  · obtain ⟨i, c, rfl, h1, h2, q⟩ := h
    exact ix_str value slice pins s σ H _ _ v u Q I rx ry ⟨_, _, _, rfl, rfl, h1, h2, q⟩ hs
  · rcases h with ⟨xs, i, w', rfl, h1 | h1, h2, q⟩ | ⟨w', g, q⟩
    · exact ix_list value slice pins s σ H _ _ v u Q I rx ry ⟨_, _, _, _, rfl, rfl, h1, h2, q⟩ hs
    · exact ix_tup value slice pins s σ H _ _ v u Q I rx ry ⟨_, _, _, _, rfl, rfl, h1, h2, q⟩ hs
    · rename_i p
      obtain rfl : v = Value.ref p := rx
      exact tail_any (dict_typeIs I g) PySem.F.slot_dict_getitem.lookup (d_getItem hu I g ry fun w2 s2 I2 rw2 => ⟨w', H, I2, rw2, q⟩) hs
  · exact h.elim
def rSlU (K : PySem.W.Frag) : V → Option Int → Option Int → Hp → VK → Prop := fun x lo hi H Q => match x with
  | .str z => z.length ≤ sizeLine ∧ Q (.str (cutS z lo hi)) H
  | .ref a => rSlL K (.ref a) lo hi H Q ∨ rSlA K (.ref a) lo hi H Q
  | _ => False
theorem sl_U : SlR X (rSlU X.K) := by
  intro pins s σ H x v vl vu lo hi sl Q I rx hs pl pu h
  unfold rSlU at h
  split at h
  · exact sl_str pins s σ H _ v vl vu lo hi sl Q I rx hs pl pu ⟨_, rfl, h.1, h.2⟩
  · rcases h with h | h
    · exact sl_list pins s σ H _ v vl vu lo hi sl Q I rx hs pl pu h
    · exact sl_tupA pins s σ H _ v vl vu lo hi sl Q I rx hs pl pu h
  · exact h.elim
/-- in, not in -/
def rInU (K : PySem.W.Frag) (g : Bool → Bool) : R2 := fun x y H Q => match y with
  | .str z => (∃ c : Nat, x = .str ⟨#[c]⟩ ∧ Q (.bl (g (decide (c ∈ z.cps.toList)))) H) ∨ ∃ i, x = .str i ∧ Q (.bl (g (!(Builtin.Str.occurrences z i 0 z.length 1).isEmpty))) H
  | .ref p => (∃ xs, (SqL K H p xs ∨ SqT K H p xs) ∧ flatV x = true ∧ xs.all flatV = true ∧ Q (.bl (g (inV x xs))) H) ∨ (∃ o, DGet H p x o ∧ Q (.bl (g o.isSome)) H)
  | _ => False
theorem op_inU (hu : X.A.units + 1 < cLine) : OpR X (compareOp .In) (rInU X.K id) := by
  intro pins s σ H x y v u Q I rx ry h
  unfold rInU at h
  split at h
  · rcases h with ⟨c, rfl, q⟩ | ⟨i, rfl, q⟩
    · exact op_in_sign pins s σ H _ _ v u Q I rx ry ⟨_, _, rfl, rfl, q⟩
    · exact op_in_str pins s σ H _ _ v u Q I rx ry ⟨_, _, rfl, rfl, q⟩
  · rcases h with ⟨xs, h1, h2, h3, q⟩ | ⟨o, g, q⟩
    · exact op_in_seq pins s σ H _ _ v u Q I rx ry ⟨_, xs, rfl, h1, h2, h3, q⟩
    · rename_i p
      obtain rfl : u = Value.ref p := ry
      exact d_in hu I g rx fun s3 I3 => ⟨.bl o.isSome, H, I3, rfl, q⟩
  · exact h.elim
theorem op_ninU (hu : X.A.units + 1 < cLine) : OpR X (compareOp .NotIn) (rInU X.K (!·)) := by
  intro pins s σ H x y v u Q I rx ry h
  unfold rInU at h
  split at h
  · rcases h with ⟨c, rfl, q⟩ | ⟨i, rfl, q⟩
    · exact op_notIn_sign pins s σ H _ _ v u Q I rx ry ⟨_, _, rfl, rfl, q⟩
    · exact op_notin_str pins s σ H _ _ v u Q I rx ry ⟨_, _, rfl, rfl, q⟩
  · rcases h with ⟨xs, h1, h2, h3, q⟩ | ⟨o, g, q⟩
    · exact op_notIn_seq pins s σ H _ _ v u Q I rx ry ⟨_, xs, rfl, h1, h2, h3, q⟩
    · rename_i p
      obtain rfl : u = Value.ref p := ry
      exact d_notIn hu I g rx fun s3 I3 => ⟨.bl (!o.isSome), H, I3, rfl, q⟩
  · exact h.elim
/-! ### calls -/
def rLenU (K : PySem.W.Frag) : List V → Hp → VK → Prop := fun xs H Q => match xs with
  | [.str z] => z.length ≤ sizeLine ∧ Q (.int z.length) H
  | [.ref p] => (∃ ys, (SqL K H p ys ∨ SqT K H p ys) ∧ Q (.int ys.length) H) ∨ ∃ kvs, H p = some (.dK kvs) ∧ Q (.int kvs.length) H
  | _ => False
theorem call_lenU : CallR X (.builtin "len") (rLenU X.K) := by
  intro pins s σ H xs us Q I r h
  unfold rLenU at h
  split at h
  · exact call_len_str pins s σ H _ us Q I r ⟨_, rfl, h.1, h.2⟩
  · rcases h with ⟨ys, h1, q⟩ | ⟨kvs, h1, q⟩
    · exact call_len_seq pins s σ H _ us Q I r ⟨_, ys, rfl, h1, q⟩
    · exact call_lenD pins s σ H _ us Q I r ⟨_, kvs, rfl, h1, q⟩
  · exact h.elim
def rIntU : List V → Hp → VK → Prop := fun xs H Q => match xs with
  | [.int i] => Q (.int i) H
  | [.bl k] => Q (.int (if k then 1 else 0)) H
  | [.str a] => ∃ n, PySem.intText? a = some n ∧ a.length ≤ 640 ∧ Q (.int n) H
  | _ => False
theorem call_intU : CallR X (.type "int") rIntU := by
  intro pins s σ H xs us Q I r h
  unfold rIntU at h
  split at h
  · exact call_int1 pins s σ H _ us Q I r (.inl ⟨_, rfl, h⟩)
  · exact call_int1 pins s σ H _ us Q I r (.inr ⟨_, rfl, h⟩)
  · obtain ⟨n, h1, h2, q⟩ := h
    exact call_int_str pins s σ H _ us Q I r ⟨_, n, rfl, h1, h2, q⟩
  · exact h.elim
def rStrU : List V → Hp → VK → Prop := fun xs H Q => match xs with
  | [.int i] => i.natAbs.log2 < 1920 ∧ Q (.str (toString i)) H
  | [.str a] => Q (.str a) H
  | _ => False
theorem call_strU : CallR X (.type "str") rStrU := by
  intro pins s σ H xs us Q I r h
  unfold rStrU at h
  split at h
  · exact call_str_int pins s σ H _ us Q I r ⟨_, rfl, h.1, h.2⟩
  · exact SkE.call_str_str pins s σ H _ us Q I r ⟨_, rfl, h⟩
  · exact h.elim
/-- isinstance: a built-in type or an own class -/
def rIsU2 (K : PySem.W.Frag) : List V → Hp → VK → Prop := fun xs H Q => ∃ (x c : V) (t u : Value) (b : Bool), xs = [x, c] ∧ ClsV c u ∧ TyX K H x t ∧ PySem.W.kitOne K t u = some b ∧ Q (.bl b) H
end
theorem hu64_of {A : Around} {k : Nat} (hr : Room k A) : A.units + 64 < cLine := by have := hr.un; omega
theorem ite_eq {c d : Bool} {A B : Prop} (e : c = d) (h : if d = true then A else B) : if c = true then A else B := by rw [e]; exact h
theorem iteD {c : Prop} [Decidable c] {A B : Prop} (h1 : c → A) (h2 : ¬ c → B) : if decide c = true then A else B := by
  by_cases h : c
  · rw [decide_eq_true h]; exact iteT (h1 h)
  · rw [decide_eq_false h]; exact iteF (h2 h)
theorem iteND {c : Prop} [Decidable c] {A B : Prop} (h1 : ¬ c → A) (h2 : c → B) : if (!decide c) = true then A else B := by
  by_cases h : c
  · rw [decide_eq_true h]; exact iteF (h2 h)
  · rw [decide_eq_false h]; exact iteT (h1 h)
/-- a text by its signs -/
abbrev T (l : List Nat) : Str := ⟨l.toArray⟩
theorem T_of (z : Str) : z = T z.cps.toList := rfl
theorem T_inj {a b : List Nat} (h : T a = T b) : a = b := congrArg (fun x : Str => x.cps.toList) h
theorem T_app (a b : List Nat) : T a ++ T b = T (a ++ b) := by
  show (⟨a.toArray ++ b.toArray⟩ : Str) = ⟨(a ++ b).toArray⟩
  simp
theorem T_dec (a b : List Nat) : decide (V.str (T a) = V.str (T b)) = decide (a = b) := by
  by_cases h : a = b
  · subst h; simp
  · have : ¬ V.str (T a) = V.str (T b) := fun z => h (T_inj (V.str.inj z))
    rw [decide_eq_false this, decide_eq_false h]
theorem I_dec (a b : Int) : decide (V.int a = V.int b) = decide (a = b) := by
  by_cases h : a = b
  · subst h; simp
  · have : ¬ V.int a = V.int b := fun z => h (V.int.inj z)
    rw [decide_eq_false this, decide_eq_false h]
theorem B_dec (a b : Bool) : decide (V.bl a = V.bl b) = (a == b) := by cases a <;> cases b <;> rfl
theorem pe_strT {X : Cx} {x : Str} {l : List Nat} {j : Nat} {pos : Pos} (e : x = T l) : PE X (.Constant (.str x) j pos) (tC (.str (T l))) := by subst e; exact pe_str
theorem pv_some {X : Cx} : True := True.intro
theorem bb_len : bootBuiltins "len" = some (.builtin "len") := by first | rfl | decide +kernel
theorem bb_isinstance : bootBuiltins "isinstance" = some (.builtin "isinstance") := by first | rfl | decide +kernel
theorem bb_abs : bootBuiltins "abs" = some (.builtin "abs") := by first | rfl | decide +kernel
theorem bb_sorted : bootBuiltins "sorted" = some (.builtin "sorted") := by first | rfl | decide +kernel
theorem bb_min : bootBuiltins "min" = some (.builtin "min") := by first | rfl | decide +kernel
theorem bb_max : bootBuiltins "max" = some (.builtin "max") := by first | rfl | decide +kernel
theorem bb_sum : bootBuiltins "sum" = some (.builtin "sum") := by first | rfl | decide +kernel
theorem bb_all : bootBuiltins "all" = some (.builtin "all") := by first | rfl | decide +kernel
theorem bb_any : bootBuiltins "any" = some (.builtin "any") := by first | rfl | decide +kernel
theorem bb_repr : bootBuiltins "repr" = some (.builtin "repr") := by first | rfl | decide +kernel
theorem bb_int : bootBuiltins "int" = some (.type "int") := by first | rfl | decide +kernel
theorem bb_str : bootBuiltins "str" = some (.type "str") := by first | rfl | decide +kernel
theorem bb_bool : bootBuiltins "bool" = some (.type "bool") := by first | rfl | decide +kernel
theorem bb_list : bootBuiltins "list" = some (.type "list") := by first | rfl | decide +kernel
theorem bb_dict : bootBuiltins "dict" = some (.type "dict") := by first | rfl | decide +kernel
theorem bb_tuple : bootBuiltins "tuple" = some (.type "tuple") := by first | rfl | decide +kernel
theorem bb_set : bootBuiltins "set" = some (.type "set") := by first | rfl | decide +kernel
theorem bb_ValueError : bootBuiltins "ValueError" = some (.type "ValueError") := by first | rfl | decide +kernel
theorem pe_gi {X : Cx} {x : Str} {z : Int} {t : Tok} {pos : Pos} (hg : Gl X x) (hm : X.mg x = some (.int z t)) (hd : (x == ("__debug__" : Str)) = false := by decide) : PE X (.Name x pos) (tC (.int z)) := pe_glob hg hm ⟨_, rfl⟩ hd
theorem pe_gs {X : Cx} {x : Str} {z : Str} {t : Tok} {pos : Pos} (hg : Gl X x) (hm : X.mg x = some (.str z t)) (hd : (x == ("__debug__" : Str)) = false := by decide) : PE X (.Name x pos) (tC (.str z)) := pe_glob hg hm ⟨_, rfl⟩ hd
theorem pe_gr {X : Cx} {x : Str} {a : Addr} {pos : Pos} (hg : Gl X x) (hm : X.mg x = some (.ref a)) (hd : (x == ("__debug__" : Str)) = false := by decide) : PE X (.Name x pos) (tC (.ref a)) := pe_glob hg hm rfl hd
theorem pe_bt {X : Cx} {x : Str} {n : String} {pos : Pos} (hg : Gl X x) (hm : X.mg x = none) (hv : bootBuiltins x = some (.type n)) (hn : x ≠ "__name__" := by decide) (hd : (x == ("__debug__" : Str)) = false := by decide) : PE X (.Name x pos) (tC (.ty n)) := pe_bltn hg hm hv rfl hn hd
/-! isinstance against built-in types -/
theorem kt_int_int {K : PySem.W.Frag} : PySem.W.kitOne K (.type "int") (.type "int") = some true := kit_ty (by decide +kernel)
theorem kt_int_bool {K : PySem.W.Frag} : PySem.W.kitOne K (.type "int") (.type "bool") = some false := kit_ty (by decide +kernel)
theorem kt_int_str {K : PySem.W.Frag} : PySem.W.kitOne K (.type "int") (.type "str") = some false := kit_ty (by decide +kernel)
theorem kt_int_list {K : PySem.W.Frag} : PySem.W.kitOne K (.type "int") (.type "list") = some false := kit_ty (by decide +kernel)
theorem kt_int_tuple {K : PySem.W.Frag} : PySem.W.kitOne K (.type "int") (.type "tuple") = some false := kit_ty (by decide +kernel)
theorem kt_int_dict {K : PySem.W.Frag} : PySem.W.kitOne K (.type "int") (.type "dict") = some false := kit_ty (by decide +kernel)
theorem kt_bool_int {K : PySem.W.Frag} : PySem.W.kitOne K (.type "bool") (.type "int") = some true := kit_ty (by decide +kernel)
theorem kt_bool_bool {K : PySem.W.Frag} : PySem.W.kitOne K (.type "bool") (.type "bool") = some true := kit_ty (by decide +kernel)
theorem kt_bool_str {K : PySem.W.Frag} : PySem.W.kitOne K (.type "bool") (.type "str") = some false := kit_ty (by decide +kernel)
theorem kt_bool_list {K : PySem.W.Frag} : PySem.W.kitOne K (.type "bool") (.type "list") = some false := kit_ty (by decide +kernel)
theorem kt_bool_tuple {K : PySem.W.Frag} : PySem.W.kitOne K (.type "bool") (.type "tuple") = some false := kit_ty (by decide +kernel)
theorem kt_bool_dict {K : PySem.W.Frag} : PySem.W.kitOne K (.type "bool") (.type "dict") = some false := kit_ty (by decide +kernel)
theorem kt_str_int {K : PySem.W.Frag} : PySem.W.kitOne K (.type "str") (.type "int") = some false := kit_ty (by decide +kernel)
theorem kt_str_bool {K : PySem.W.Frag} : PySem.W.kitOne K (.type "str") (.type "bool") = some false := kit_ty (by decide +kernel)
theorem kt_str_str {K : PySem.W.Frag} : PySem.W.kitOne K (.type "str") (.type "str") = some true := kit_ty (by decide +kernel)
theorem kt_str_list {K : PySem.W.Frag} : PySem.W.kitOne K (.type "str") (.type "list") = some false := kit_ty (by decide +kernel)
theorem kt_str_tuple {K : PySem.W.Frag} : PySem.W.kitOne K (.type "str") (.type "tuple") = some false := kit_ty (by decide +kernel)
theorem kt_str_dict {K : PySem.W.Frag} : PySem.W.kitOne K (.type "str") (.type "dict") = some false := kit_ty (by decide +kernel)
theorem kt_list_int {K : PySem.W.Frag} : PySem.W.kitOne K (.type "list") (.type "int") = some false := kit_ty (by decide +kernel)
theorem kt_list_bool {K : PySem.W.Frag} : PySem.W.kitOne K (.type "list") (.type "bool") = some false := kit_ty (by decide +kernel)
theorem kt_list_str {K : PySem.W.Frag} : PySem.W.kitOne K (.type "list") (.type "str") = some false := kit_ty (by decide +kernel)
theorem kt_list_list {K : PySem.W.Frag} : PySem.W.kitOne K (.type "list") (.type "list") = some true := kit_ty (by decide +kernel)
theorem kt_list_tuple {K : PySem.W.Frag} : PySem.W.kitOne K (.type "list") (.type "tuple") = some false := kit_ty (by decide +kernel)
theorem kt_list_dict {K : PySem.W.Frag} : PySem.W.kitOne K (.type "list") (.type "dict") = some false := kit_ty (by decide +kernel)
theorem kt_tuple_int {K : PySem.W.Frag} : PySem.W.kitOne K (.type "tuple") (.type "int") = some false := kit_ty (by decide +kernel)
theorem kt_tuple_bool {K : PySem.W.Frag} : PySem.W.kitOne K (.type "tuple") (.type "bool") = some false := kit_ty (by decide +kernel)
theorem kt_tuple_str {K : PySem.W.Frag} : PySem.W.kitOne K (.type "tuple") (.type "str") = some false := kit_ty (by decide +kernel)
theorem kt_tuple_list {K : PySem.W.Frag} : PySem.W.kitOne K (.type "tuple") (.type "list") = some false := kit_ty (by decide +kernel)
theorem kt_tuple_tuple {K : PySem.W.Frag} : PySem.W.kitOne K (.type "tuple") (.type "tuple") = some true := kit_ty (by decide +kernel)
theorem kt_tuple_dict {K : PySem.W.Frag} : PySem.W.kitOne K (.type "tuple") (.type "dict") = some false := kit_ty (by decide +kernel)
theorem kt_dict_int {K : PySem.W.Frag} : PySem.W.kitOne K (.type "dict") (.type "int") = some false := kit_ty (by decide +kernel)
theorem kt_dict_bool {K : PySem.W.Frag} : PySem.W.kitOne K (.type "dict") (.type "bool") = some false := kit_ty (by decide +kernel)
theorem kt_dict_str {K : PySem.W.Frag} : PySem.W.kitOne K (.type "dict") (.type "str") = some false := kit_ty (by decide +kernel)
theorem kt_dict_list {K : PySem.W.Frag} : PySem.W.kitOne K (.type "dict") (.type "list") = some false := kit_ty (by decide +kernel)
theorem kt_dict_tuple {K : PySem.W.Frag} : PySem.W.kitOne K (.type "dict") (.type "tuple") = some false := kit_ty (by decide +kernel)
theorem kt_dict_dict {K : PySem.W.Frag} : PySem.W.kitOne K (.type "dict") (.type "dict") = some true := kit_ty (by decide +kernel)
theorem kt_NoneType_int {K : PySem.W.Frag} : PySem.W.kitOne K (.type "NoneType") (.type "int") = some false := kit_ty (by decide +kernel)
theorem kt_NoneType_bool {K : PySem.W.Frag} : PySem.W.kitOne K (.type "NoneType") (.type "bool") = some false := kit_ty (by decide +kernel)
theorem kt_NoneType_str {K : PySem.W.Frag} : PySem.W.kitOne K (.type "NoneType") (.type "str") = some false := kit_ty (by decide +kernel)
theorem kt_NoneType_list {K : PySem.W.Frag} : PySem.W.kitOne K (.type "NoneType") (.type "list") = some false := kit_ty (by decide +kernel)
theorem kt_NoneType_tuple {K : PySem.W.Frag} : PySem.W.kitOne K (.type "NoneType") (.type "tuple") = some false := kit_ty (by decide +kernel)
theorem kt_NoneType_dict {K : PySem.W.Frag} : PySem.W.kitOne K (.type "NoneType") (.type "dict") = some false := kit_ty (by decide +kernel)
end LX
/-! sorted(x) of a list of whole numbers or of a dict with such keys, any number of them -/
namespace LX
open PySem PySem.Spec PyProof.Rows L2
section
variable {X : Cx}
theorem call_sortedDA (hcalm : X.calm = true) : CallR X (.builtin "sorted") (fun xs H Q => ∃ (a : Addr) (kvs : List (Key × V)) (ks : List Int), xs = [.ref a] ∧ Rd H a (.dK kvs) ∧ kvs.map (·.1) = ks.map Sum.inl ∧
    ∀ (ys : List Int) (p : Addr), ys.Perm ks → ys.Pairwise (· ≤ ·) → H p = none → Q (.ref p) (upd H p (.lst (ys.map V.int)))) := by
  intro pins s σ H xs us Q I r q
  obtain ⟨a, kvs, ks, ex, hd, hks, q⟩ := q
  subst ex
  obtain ⟨u, eu, rx⟩ := vals1 r
  subst eu
  cases rx
  obtain ⟨z, lo, vs, rel, dd⟩ := dk_rd I.hok hd
  obtain ⟨ep, hat⟩ := dd.dictAt
  have hkeys : vs.map (·.1) = ks.map Sum.inl := rel.keys.symm.trans hks
  have hl : vs.length = ks.length := by
    have e := congrArg List.length hkeys
    rw [List.length_map, List.length_map] at e
    exact e
  have hkl : ks.length ≤ sizeLine := by
    have e := congrArg List.length hks
    rw [List.length_map, List.length_map] at e
    omega
  have h16 : vs.length ≤ sizeLine := by rw [hl]; exact hkl
  refine Calls.call_function_entry PyProof.Rows.kind_sorted PyProof.Rows.plain_sorted PyProof.Rows.entry_sorted (PyProof.Rows.args_sorted1 _) ?_
  unfold Builtin.«sorted»
  refine wpAny_bind (m := checkCount "sorted" 1 1 _) (wpAny_pure ?_)
  refine wpAny_bind (PySem.W.kdu_collect (A := X.A.in1) (PySem.W.kdl_dict (knd := mixKind X.prog X.w) (kvs := vs) (ep := ep) lo) (I.ok.hd hcalm) hat h16 fun h' tk acc hk hacc => ?_)
  have hal : acc.toList.length = ks.length := by rw [Array.length_toList, hacc.1, hl]
  have hS : IntsAre acc.toList ks := ints_each hal fun j v e => by
    obtain ⟨k, x, e1, e2⟩ := hacc.2 j v (by rw [← Array.getElem?_toList]; exact e)
    have e3 : (vs.map (·.1))[j]? = some k := by rw [List.getElem?_map, e1]; rfl
    rw [hkeys, List.getElem?_map] at e3
    cases e4 : ks[j]? with
    | none => rw [e4] at e3; cases e3
    | some y =>
      rw [e4] at e3
      have e5 : Sum.inl y = k := Option.some.inj e3
      subst e5
      rcases keyIs_shape (show keyIs (Sum.inl y) v = true from e2) with ⟨i, t, ek, ev⟩ | ⟨z, t, ek, ev⟩
      · cases ek
        exact ⟨y, t, rfl, ev⟩
      · cases ek
  have I1 : Inv X pins σ H { s with heap := h', toks := tk } := I.kept hk
  refine wpAny_bind (wpAny_newList ?_ (by rw [hal]; exact hkl))
  have hoL : (h'.push (seqObj "list" acc.toList.toArray 0)).get? h'.objs.size = some (seqObj "list" acc.toList.toArray 0) := Heap.get?_push_size _ rfl
  show wpAny _ _ _ _ _ { s with heap := h'.push (seqObj "list" acc.toList.toArray 0), toks := tk }
  refine wpAny_bind (wpAny_holding (wpAny_call_entry PyProof.Rows.slot_list_sort ⟨_, hoL, rfl⟩ PyProof.Rows.entry_list_sort
    (SrtO.list_sort_ord (s := { s with heap := h'.push (seqObj "list" acc.toList.toArray 0), toks := tk }) SrtO.swo_int hoL (by rw [hal]; exact hkl) (fun h2 => SrtO.ints_sortable hS h2) fun out h1 h2 => ⟨.none, rfl, ?_⟩) (PyProof.Rows.args_list_sort _)))
  obtain ⟨k1, k2, k3⟩ := SrtO.ints_out hS h1 h2
  obtain ⟨e', he'⟩ := PyProof.Rows.sortedHeap_at (vs := acc.toList) (out := out.toArray) hoL
  have hlen : ((out.map SrtO.iv).map V.int).length ≤ sizeLine := by
    rw [List.length_map, k2.length_eq]
    exact hkl
  refine wpAny_pure ⟨_, rfl, .ref h'.objs.size, upd H h'.objs.size (.lst ((out.map SrtO.iv).map V.int)), I1.laid (t' := tk) (fun b u e => ?_) (Nat.le_refl _)
    (show ObjOk X.prog X.w _ _ _ (.lst ((out.map SrtO.iv).map V.int)) from ⟨hlen, out, e', vals_of_ints k1, he'⟩), rfl, q _ _ k2 k3 (I1.hok.fresh (Nat.le_refl _))⟩
  have hb : b < h'.objs.size := Heap.lt_size e
  rw [PyProof.Rows.sortedHeap_old (Nat.ne_of_lt hb) (by rw [size_push']; exact Nat.lt_succ_of_lt hb)]
  exact Heap.get?_push_of_some _ e
def rSortedU (K : PySem.W.Frag) : List V → Hp → VK → Prop := fun vs H Q => ∃ (a : Addr) (ns : List Int), vs = [V.ref a] ∧ (SqL K H a (ns.map V.int) ∨ ∃ kvs : List (Key × V), Rd H a (.dK kvs) ∧ kvs.map (·.1) = ns.map Sum.inl) ∧
  ∀ (ns' : List Int) (p : Addr), ns'.Perm ns → ns'.Pairwise (· ≤ ·) → H p = none → Q (.ref p) (upd H p (.lst (ns'.map V.int)))
theorem call_sortedU (hcalm : X.calm = true) : CallR X (.builtin "sorted") (rSortedU X.K) := by
  intro pins s σ H xs us Q I r h
  obtain ⟨a, ns, rfl, h1 | ⟨kvs, h1, h2⟩, q⟩ := h
  · exact cr_sortedI pins s σ H _ us Q I r ⟨a, ns, rfl, h1, q⟩
  · exact call_sortedDA hcalm pins s σ H _ us Q I r ⟨a, kvs, ns, rfl, h1, h2, q⟩
end
end LX
/-! the rules of LBase with the law's own K, for the parts of a comprehension -/
namespace LX
open PySem PySem.Spec PyProof.Rows L2
section
variable {X : Cx} {K : PySem.W.Frag}
theorem ix_UK (e : X.K = K) (hu : X.A.units + 1 < cLine) : IxR X (rIxU K) := by subst e; exact ix_U hu
theorem op_addUK (e : X.K = K) : OpR X (binaryOp .Add) (rAddU K) := by subst e; exact op_addU
theorem op_eqUK (e : X.K = K) (hu : X.A.units + 64 < cLine) : OpR X (compareOp .Eq) (rEqU K id) := by subst e; exact op_eqU hu
theorem op_neUK (e : X.K = K) (hu : X.A.units + 64 < cLine) : OpR X (compareOp .NotEq) (rEqU K (!·)) := by subst e; exact op_neU hu
theorem op_inUK (e : X.K = K) (hu : X.A.units + 1 < cLine) : OpR X (compareOp .In) (rInU K id) := by subst e; exact op_inU hu
theorem op_ninUK (e : X.K = K) (hu : X.A.units + 1 < cLine) : OpR X (compareOp .NotIn) (rInU K (!·)) := by subst e; exact op_ninU hu
theorem sl_UK (e : X.K = K) : SlR X (rSlU K) := by subst e; exact sl_U
theorem call_lenUK (e : X.K = K) : CallR X (.builtin "len") (rLenU K) := by subst e; exact call_lenU
theorem pe_fldK {o : Expr} {f : Str} {pos : Pos} {ta : TE} (e : X.K = K) (he : PE X o ta) (hb : attributeBase o f X.env (eval o X.env) = eval o X.env) : PE X (.Attribute o f pos) (tFld K ta f) := by subst e; exact pe_fld he hb
def tTruK (K : PySem.W.Frag) (ta : TE) : TT := fun σ H Q => ta σ H fun x H' => ∃ k, TruV K x H' k ∧ Q k H'
theorem pt_truthK {a : Expr} {ta : TE} (e : X.K = K) (ha : PE X a ta) (he : ∀ whole, isTrue a X.env whole = (do let v ← whole; standAt a.pos; holding [v] (truthy v))) :
    PT X a (tTruK K ta) := by subst e; exact pt_truth ha he
end
end LX
/-! sorted(d, key=lambda y: d[y]) of a dict of whole numbers by whole numbers, d a captured name -/
namespace LX
open PySem PySem.Spec PySem.W PyProof.Rows L2 NdefX LamX
section
variable {P : Program} {w : World} {A : Around} {s : Shared}
/-- the lambda's call: the captured dict's value -/
theorem look_call {κ : Type} [DecidableEq κ] {knd : PySem.KeyKind P w κ} {f c' cc d : Addr} {qual x y : Str} {params : Arguments} {scope : Scope} {cl : List (Str × Addr)} {pm ctv v : Value} {px py pos : Pos} {fm : κ → Option Value} {k : κ} {i : Int} {t : Tok}
    (hroom : A.depth < recursionLimit) (ho : s.heap.get? f = some (PySem.W.kla_obj "<lambda>" qual params (.Subscript (.Name x px) (.Name y py) pos) scope cl pm c' ctv)) (hc : s.heap.CodeRec (.ref c') qual)
    (hk : scope.kind = .function) (hco : scope.isCoroutine = false) (hge : scope.isGenerator = false) (nocell : ∀ z ∈ scope.names, z.2 ≠ .cell) (hy : scope.names.lookup y = some .local) (hx : scope.names.lookup x = some .free)
    (hcx : cl.lookup x = some cc) (hcell : s.heap.IsCell cc (some (.ref d))) (hm : s.heap.MapOf knd d fm) (hkey : knd.is k v = true) (hval : fm k = some (.int i t)) (lim : s.heap.NoLimit)
    (hbind : ∀ (pm cv ctv : Value), bindArgs (PySem.W.kla_fn "<lambda>" qual params (.Subscript (.Name x px) (.Name y py) pos) scope cl pm cv ctv) ⟨[v], []⟩ = pure [(y, v)])
    (dx : (x == ("__debug__" : Str)) = false) (dy : (y == ("__debug__" : Str)) = false) (cdx : (x == ("__classdict__" : Str)) = false) :
    wpAny (model P w) A (call (.ref f) [v]) (KeyPure (.int i) s) (fun _ _ => False) s := by
  have rc : codeAny (model P w) A (.call (.ref f) ⟨[v], []⟩) (fun r s' => ∃ u, r = .ok (.ret u) ∧ KeyPure (.int i) s u s') s := by
    refine PySem.W.kla_callFunE hroom ho rfl hco hge rfl hc ?_
    rw [hbind]
    refine wpAny_pure (wpAny_newFunctionEnv nocell (fun z hz => ?_) (fun h₁ hns hsb => ⟨lim.fresh _ hsb, ?_⟩) hk)
    · have e : z = (y, v) := by simpa using hz
      rw [e]; exact hy
    show codeAny _ _ (.expr (.Subscript (.Name x px) (.Name y py) pos) (PySem.W.envX qual scope s.heap.objs.size f (.ref c') cl)) _ _
    have kp : ∀ b o, s.heap.get? b = some o → h₁.get? b = some o := fun b o e => hsb.extBut b o (Nat.ne_of_lt (Heap.lt_size e)) (Heap.get?_push_of_some _ e)
    have hcell' : h₁.IsCell cc (some (.ref d)) := by
      obtain ⟨o, h1, h2⟩ := hcell
      exact ⟨o, kp _ _ h1, h2⟩
    have hm' : h₁.MapOf knd d fm := by
      obtain ⟨o, es, ep, h1, h2⟩ := hm
      exact ⟨o, es, ep, kp _ _ h1, h2⟩
    refine PySem.W.kla_codeExpr ?_
    refine subD_of PySem.F.slot_dict_getitem.lookup (fun _ _ => rfl) ?_
    refine wpAny_Name (wpAny_loadName_free hk hx hcx hcell' ?_ cdx) dx
    refine wpAny_Name (wpAny_loadName_local hk hy hns (zip_look (ps := [y]) (us := [v]) (i := 0) (by simp) rfl rfl) ?_) dy
    refine ⟨hm'.typeIs, ?_⟩
    refine wpAny_getItem_of hkey hm' hval ?_
    exact ⟨_, rfl, _, _, rfl, kp, .int i t⟩
  refine wpAny_call (codeAny_mono rc fun r s' hq => ?_)
  obtain ⟨u, rfl, hq⟩ := hq
  exact hq
end
/-- a dict of whole numbers by whole numbers -/
def pD (ps : List (Int × Int)) : List (Key × V) := ps.map fun p => (.inl p.1, .int p.2)
theorem pD_val {ps : List (Int × Int)} {n i : Int} (nd : (ps.map (·.1)).Nodup) (h : (n, i) ∈ ps) : valV (pD ps) (.inl n) = some (.int i) := by
  induction ps with
  | nil => simp at h
  | cons p r ih =>
    obtain ⟨h1, h2⟩ := List.nodup_cons.mp nd
    unfold pD at ih ⊢
    rw [List.map_cons]
    rcases List.mem_cons.mp h with e | e
    · subst e
      exact valV_pos (p := (Sum.inl n, V.int i)) rfl
    · rw [valV_neg (p := (Sum.inl p.1, V.int p.2)) (fun z => h1 (by show p.1 ∈ _; rw [show p.1 = n from Sum.inl.inj z]; exact List.mem_map.mpr ⟨_, e, rfl⟩))]
      exact ih h2 e
theorem each_of {us : List Value} {ps : List (Int × Int)} (hl : us.length = ps.length) (h : ∀ (j : Nat) (v : Value) (p : Int × Int), us[j]? = some v → ps[j]? = some p → ∃ t, v = Value.int p.1 t) :
    PySem.W.EachIs (fun (v : Value) (p : Int × Int) => ∃ t, v = Value.int p.1 t) us ps := by
  induction us generalizing ps with
  | nil => cases ps with
    | nil => exact .nil
    | cons => simp at hl
  | cons u r ih => cases ps with
    | nil => simp at hl
    | cons p t => exact .cons (h 0 u p rfl rfl) (ih (by simpa using hl) fun j v q h1 h2 => h (j + 1) v q h1 h2)
theorem each_vals {us : List Value} {ps : List (Int × Int)} (h : PySem.W.EachIs (fun (v : Value) (p : Int × Int) => ∃ t, v = Value.int p.1 t) us ps) : Vals ((ps.map (·.1)).map V.int) us := by
  induction h with
  | nil => exact .nil
  | cons h _ ih => exact .cons h ih
section
variable {X : Cx}
theorem sort_dict_by {pins : List (Addr × Obj)} {σ : L2.St} {H : Hp} {s : Shared} {a fq : Addr} {ps : List (Int × Int)} {Q : VK} (hcalm : X.calm = true) (hu : X.A.units + 64 < cLine) (I : Inv X pins σ H s) (hd : H a = some (.dK (pD ps)))
    (turn : ∀ (v : Value) (p : Int × Int) (t : Tok), v = .int p.1 t → p ∈ ps → ∀ (h : Heap) (tk : Nat), (∀ b o, s.heap.get? b = some o → h.get? b = some o) →
      wpAny (model X.prog X.w) X.A.in1.in1 (call (.ref fq) [v]) (KeyPure (.int p.2) { s with heap := h, toks := tk }) (fun _ _ => False) { s with heap := h, toks := tk })
    (q : ∀ (ys : List (Int × Int)) (p : Addr), ys.Perm ps → ys.Pairwise (fun x y => x.2 ≤ y.2) → H p = none → Q (.ref p) (upd H p (.lst ((ys.map (·.1)).map V.int)))) :
    wpAny (model X.prog X.w) X.A (call (.builtin "sorted") [.ref a] [(Str.ofString "key", .ref fq)]) (EP X pins σ Q) X.xe s := by
  obtain ⟨z, lo, vs, rel, dd⟩ := dk_rd I.hok (Rd.of hd)
  obtain ⟨ep, hat⟩ := dd.dictAt
  have hkl : ps.length ≤ sizeLine := by
    unfold pD at z
    rw [List.length_map] at z
    exact z
  have hkeys : vs.map (·.1) = ps.map fun p => Sum.inl p.1 := by
    rw [← rel.keys]
    unfold pD
    rw [List.map_map]; rfl
  have hl : vs.length = ps.length := by
    have e := congrArg List.length hkeys
    rw [List.length_map, List.length_map] at e
    exact e
  have h16 : vs.length ≤ sizeLine := by rw [hl]; exact hkl
  refine call_function_entry_kw PyProof.Rows.kind_sorted PyProof.Rows.plain_sorted PyProof.Rows.entry_sorted (PyProof.Rows.ksk_s1 _ _) ?_
  unfold Builtin.«sorted»
  refine wpAny_bind (m := checkCount "sorted" 1 1 _) (wpAny_pure ?_)
  refine wpAny_bind (PySem.W.kdu_collect (A := X.A.in1) (PySem.W.kdl_dict (knd := mixKind X.prog X.w) (kvs := vs) (ep := ep) lo) (I.ok.hd hcalm) hat h16 fun h' tk acc hk hacc => ?_)
  have hal : acc.toList.length = ps.length := by rw [Array.length_toList, hacc.1, hl]
  have hE : PySem.W.EachIs (fun (v : Value) (p : Int × Int) => ∃ t, v = Value.int p.1 t) acc.toList ps := each_of hal fun j v p e ep' => by
    obtain ⟨k, x, e1, e2⟩ := hacc.2 j v (by rw [← Array.getElem?_toList]; exact e)
    have e3 : (vs.map (·.1))[j]? = some k := by rw [List.getElem?_map, e1]; rfl
    rw [hkeys, List.getElem?_map, ep'] at e3
    have e5 : Sum.inl p.1 = k := Option.some.inj e3
    subst e5
    rcases keyIs_shape (show keyIs (Sum.inl p.1) v = true from e2) with ⟨i, t, ek, ev⟩ | ⟨z, t, ek, ev⟩
    · cases ek
      exact ⟨t, ev⟩
    · cases ek
  have I1 : Inv X pins σ H { s with heap := h', toks := tk } := I.kept hk
  refine wpAny_bind (wpAny_newList ?_ (by rw [hal]; exact hkl))
  have hoL : (h'.push (seqObj "list" acc.toList.toArray 0)).get? h'.objs.size = some (seqObj "list" acc.toList.toArray 0) := Heap.get?_push_size _ rfl
  show wpAny _ _ _ _ _ { s with heap := h'.push (seqObj "list" acc.toList.toArray 0), toks := tk }
  have nL : ∀ b o, h'.get? b = some o → b ≠ h'.objs.size := fun b o e => Nat.ne_of_lt (Heap.lt_size e)
  refine wpAny_bind (wpAny_holding (PySem.W.list_sort_key_data (A := X.A.in1) (b := false) (s := { s with heap := h'.push (seqObj "list" acc.toList.toArray 0), toks := tk }) (fun p : Int × Int => PyData.int p.2) hoL hE ?_ ?_ hkl ?_ (PyProof.Rows.ksk_l1 _ _) (PyProof.Rows.ksk_t1 _ _) (fun v p hv hp h2 tk2 kb => ?_) fun out c h2 tk2 kb hout hlen hEo => ?_))
  · exact PySem.W.AllAlike.of (enc := fun p : Int × Int => PyData.int p.2) fun _ _ => rfl
  · exact PySem.W.Sortable.others (enc := fun p : Int × Int => PyData.int p.2) fun _ => ⟨(by intro z; cases z), fun xs => (by intro z; cases z)⟩
  · intro p _
    show X.A.units + 1 + 1 + 0 < cLine
    omega
  · obtain ⟨t, rfl⟩ := hv
    exact turn _ p t rfl hp h2 tk2 fun b o e => kb b o (nL b o (hk b o e)) (Heap.get?_push_of_some _ (hk b o e))
  · have hm := hEo
    rw [PySem.W.dataLe_int (fun p : Int × Int => p.2)] at hm
    have pm : (ps.mergeSort fun a b : Int × Int => decide (a.2 ≤ b.2)).Perm ps := List.mergeSort_perm _ _
    have pw : (ps.mergeSort fun a b : Int × Int => decide (a.2 ≤ b.2)).Pairwise (fun x y => x.2 ≤ y.2) := by
      have := List.pairwise_mergeSort (le := fun a b : Int × Int => decide (a.2 ≤ b.2)) (fun a b c h1 h2 => by simp at h1 h2 ⊢; omega) (fun a b => by simp; omega) ps
      exact this.imp fun h => of_decide_eq_true h
    generalize ps.mergeSort (fun a b : Int × Int => decide (a.2 ≤ b.2)) = ys at hm pm pw
    have hvals := each_vals hm
    have hlen2 : ((ys.map (·.1)).map V.int).length ≤ sizeLine := by
      rw [List.length_map, List.length_map, pm.length_eq]
      exact hkl
    refine wpAny_pure ⟨_, rfl, .ref h'.objs.size, upd H h'.objs.size (.lst ((ys.map (·.1)).map V.int)), I1.laid (t' := tk2) (fun b u e => kb b u (nL b u e) (Heap.get?_push_of_some _ e)) (Nat.le_refl _)
      (show ObjOk X.prog X.w _ _ _ (.lst ((ys.map (·.1)).map V.int)) from ⟨hlen2, out, c, hvals, hout⟩), rfl, q _ _ pm pw (I1.hok.fresh (Nat.le_refl _))⟩
def tSKL (T : List (Addr × Str)) (i : Nat) : TE := fun σ H Q => ∃ (a : Addr) (ps : List (Int × Int)), σ[i]? = some (some (.ref a)) ∧ H a = some (.dK (pD ps)) ∧ (ps.map (·.1)).Nodup ∧ Tabs T H ∧
  ∀ H1, ExtN H H1 → Tabs T H1 → ∀ (ys : List (Int × Int)) (q : Addr), ys.Perm ps → ys.Pairwise (fun x y => x.2 ≤ y.2) → H1 q = none → Q (.ref q) (upd H1 q (.lst ((ys.map (·.1)).map V.int)))
theorem pe_sortKeyLam {T : List (Addr × Str)} {c P : Addr} {k i : Nat} {x y : Str} {params : Arguments} {scope : Scope} {p px px2 py spos lpos kpos pos : Pos} (hcalm : X.calm = true) (hr : Room k X.A) (hg : Gl X "sorted") (hm : X.mg "sorted" = none)
    (hN : X.N[i]? = some x) (hvx : X.env.scope.names.lookup x = some .cell) (TB : TabB X.base X.mg c P) (hcode : X.env.code = .ref c) (hmT : (P, X.env.qual ++ "<lambda>") ∈ T) (huT : ∀ p ∈ T, p.1 = P → p.2 = X.env.qual ++ "<lambda>")
    (hdef : defaultsOf params X.env = ([], [])) (hk : scope.kind = .function) (hco : scope.isCoroutine = false) (hge : scope.isGenerator = false) (nocell : ∀ z ∈ scope.names, z.2 ≠ .cell) (hy : scope.names.lookup y = some .local) (hx : scope.names.lookup x = some .free)
    (hfree : ∀ z ∈ scope.names, z.2 = .free → X.env.scope.names.lookup z.1 = some .cell ∨ X.env.scope.names.lookup z.1 = some .free)
    (hbind : ∀ (q : Str) (cl : List (Str × Addr)) (v pm cv ctv : Value), bindArgs (PySem.W.kla_fn "<lambda>" q params (.Subscript (.Name x px2) (.Name y py) spos) scope cl pm cv ctv) ⟨[v], []⟩ = pure [(y, v)])
    (dx : (x == ("__debug__" : Str)) = false) (dy : (y == ("__debug__" : Str)) = false) (cdx : (x == ("__classdict__" : Str)) = false) :
    PE X (.Call (.Name "sorted" p) [.Name x px] [⟨some "key", .Lambda params (.Subscript (.Name x px2) (.Name y py) spos) scope lpos, kpos⟩] pos) (tSKL T i) := by
  refine ⟨fun pins s σ H Q I h => ?_⟩
  obtain ⟨a, ps, hs, hd, nd, hT, q⟩ := h
  have hfr : ∀ z ∈ scope.names, z.2 = .free → ∃ c, X.env.cells.lookup z.1 = some c := fun z hz e => (hfree z hz e).elim (fun q => I.ok.has _ (.inl q)) fun q => I.ok.has _ (.inr q)
  refine wpAny_Call_Name_kw (ld_blt I hg hm bb_sorted ?_)
  refine PyProof.Rows.callWith_kw (id := "sorted") (thn ((pa_cons (pe_var (pos := px) hN (Or.inr (Or.inl hvx)) dx cdx) pa_nil).run pos pins s σ H (fun vs H1 => vs = [.ref a] ∧ H1 = H) I ⟨_, hs, rfl, rfl⟩) fun us s1 hq => ?_)
  obtain ⟨vs, H1, I1, r1, e1, e2⟩ := hq
  subst e1 e2
  obtain ⟨u0, rfl, ru0⟩ := vals1 r1
  obtain rfl : u0 = Value.ref a := ru0
  show wpAny _ _ (evalAll ((do let v ← eval (.Lambda params (.Subscript (.Name x px2) (.Name y py) spos) scope lpos) X.env; standAt pos; pure v) :: [])) _ _ s1
  refine wpAny_evalAll_cons (wpAny_bind (lam_make2 I1 TB hcode hmT huT hT hdef hfr fun f c' pm ctv H2 s2 I2 eN T2 hf hfn hfrm hcO => wpAny_bind (wpAny_standAt (wpAny_pure ?_))))
  refine wpAny_evalAll_nil ?_
  show wpAny _ _ (call (.builtin "sorted") [.ref a] [(Str.ofString "key", .ref f)]) _ _ s2
  have hd2 := eN _ _ hd (by intro ps z; cases z)
  have hu64 : X.A.units + 64 < cLine := by have := hr.un; omega
  refine sort_dict_by hcalm hu64 I2 hd2 (fun v pr t hv hp h tk kb => ?_) (q H2 eN T2)
  subst hv
  have Ih : Inv X pins σ H2 { s2 with heap := h, toks := tk } := I2.kept kb
  obtain ⟨m, hn, hl⟩ := I2.loc
  obtain ⟨u, r, l⟩ := hl i x (.ref a) hN hs (Or.inr (Or.inl hvx))
  obtain rfl : u = Value.ref a := r
  rcases l with ⟨hk', _⟩ | ⟨_, cc, hcc, hcell⟩
  · have hk' : X.env.scope.names.lookup x = some .local := hk'
    rw [hvx] at hk'
    cases hk'
  obtain ⟨z, lo, ws, rel, dd⟩ := dk_rd Ih.hok (Rd.of hd2)
  obtain ⟨w', hw, rw'⟩ := RelO.some_of (v := .int pr.2) (o := valueAt ws (.inl pr.1)) (by have := rel.val (.inl pr.1); rw [pD_val nd (show (pr.1, pr.2) ∈ ps from hp)] at this; exact this)
  obtain ⟨t', rfl⟩ := rw'
  refine look_call (A := X.A.in1.in1) (s := { s2 with heap := h, toks := tk }) (knd := mixKind X.prog X.w) (k := .inl pr.1) (t := t') ?_ (kb _ _ hf) (codeO_at Ih.hok hcO) hk hco hge nocell hy hx (clo_has hfr (PySem.mem_of_lookup hx) hcc) ?_ dd.mapOf ?_ hw Ih.nolimit (fun _ _ _ => hbind _ _ _ _ _ _) dx dy cdx
  · have := hr.dp
    show X.A.depth < _
    omega
  · obtain ⟨o, h1, h2⟩ := hcell
    exact ⟨o, kb _ _ h1, h2⟩
  · exact kV_is (k := .inl pr.1) ⟨t, rfl⟩
end
/-- a def whose code object is known: it makes a lambda -/
structure FunC (K : PySem.W.Frag) (x qual : Str) (st : Stmt) (f : Addr) (fd : FuncData) (c : Addr) : Prop where
  ex : ∃ (oc : Value) (od : Option Addr) (kV doc pm : Value) (an : Option Addr) (ct : Value) (osl : Array (Option Value)),
    fd = PySem.W.fnOf x qual (defArgs st) (defBody st) (defScope st) .none kV doc pm an (.ref c) ct ∧ K.lookup f = some ⟨oc, od, .func fd, osl⟩ ∧ PySem.W.codeIn K (.ref c) qual = true
theorem FunC.ok {P : Program} {w : World} {K : PySem.W.Frag} {mg : Str → Option Value} {base : Heap} {x qual : Str} {st : Stmt} {f c : Addr} {fd : FuncData} {N ps : List Str} {k : Nat} {sp : Sp} (F : FunC K x qual st f fd c) (S : FnScope N ps (defScope st)) (len : ∀ vs H Q E, sp vs H Q E → vs.length = ps.length)
    (hbody : ∀ (A : Around) (outer : List Env) (s : Shared) (H : Hp) (vs : List V) (Q : VK) (E : XK), Room k (A.deeper (envOfC qual (defScope st) s.heap.objs.size f (.ref c))) → sp vs H Q E →
      ∃ t, PSs (cxOf CX0 P w K mg base N qual (defScope st) f (.ref c) A outer s H E).nox (defBody st) t ∧ t { nx := fun _ H' => Q .non H', rt := Q } (L2.start N vs) H) : FnOk P w K mg base CX0 (k + 1) f fd ps sp := by
  obtain ⟨oc, od, kV, doc, pm, an, ct, osl, rfl, lk, hcd⟩ := F.ex
  refine fn_of lk hcd S len fun A outer s H vs Q E hr hsp => ?_
  obtain ⟨t, h, q⟩ := hbody A outer s H vs Q E hr hsp
  exact ⟨t, h.nox, q⟩
end LX
namespace LX
open PySem PySem.Spec PyProof.Rows L2 NdefX
def top (i : Nat) : Stmt := PySem.Challenge.pw_saggar_k03_exchange_by_numbers.main.body.getD i (.Pass ⟨0, 0, 0, 0⟩)
abbrev s_Store___init__ : Stmt := inClass (top 8) 0
abbrev N_Store___init__ : List Str := ["self", "room", "entries"]
theorem sc_Store___init__ : FnScope N_Store___init__ ["self", "room", "entries"] (defScope s_Store___init__) := ⟨rfl, rfl, rfl, by decide +kernel, rfl, by decide +kernel, by decide +kernel⟩
abbrev s_Store_numbers : Stmt := inClass (top 8) 3
abbrev N_Store_numbers : List Str := ["self"]
theorem sc_Store_numbers : FnScope N_Store_numbers ["self"] (defScope s_Store_numbers) := ⟨rfl, rfl, rfl, by decide +kernel, rfl, by decide +kernel, by decide +kernel⟩
abbrev s_Store_free_number : Stmt := inClass (top 8) 4
abbrev N_Store_free_number : List Str := ["self"]
theorem sc_Store_free_number : FnScope N_Store_free_number ["self"] (defScope s_Store_free_number) := ⟨rfl, rfl, rfl, by decide +kernel, rfl, by decide +kernel, by decide +kernel⟩
abbrev s_Store_allocate : Stmt := inClass (top 8) 5
abbrev N_Store_allocate : List Str := ["self", "kind", "size", "number"]
theorem sc_Store_allocate : FnScope N_Store_allocate ["self", "kind", "size"] (defScope s_Store_allocate) := ⟨rfl, rfl, rfl, by decide +kernel, rfl, by decide +kernel, by decide +kernel⟩
abbrev s_Store_size : Stmt := inClass (top 8) 6
abbrev N_Store_size : List Str := ["self", "number"]
theorem sc_Store_size : FnScope N_Store_size ["self", "number"] (defScope s_Store_size) := ⟨rfl, rfl, rfl, by decide +kernel, rfl, by decide +kernel, by decide +kernel⟩
abbrev s_Store_kind : Stmt := inClass (top 8) 7
abbrev N_Store_kind : List Str := ["self", "number"]
theorem sc_Store_kind : FnScope N_Store_kind ["self", "number"] (defScope s_Store_kind) := ⟨rfl, rfl, rfl, by decide +kernel, rfl, by decide +kernel, by decide +kernel⟩
abbrev s_Store_get : Stmt := inClass (top 8) 9
abbrev N_Store_get : List Str := ["self", "number", "at"]
theorem sc_Store_get : FnScope N_Store_get ["self", "number", "at"] (defScope s_Store_get) := ⟨rfl, rfl, rfl, by decide +kernel, rfl, by decide +kernel, by decide +kernel⟩
abbrev s_Store_put : Stmt := inClass (top 8) 10
abbrev N_Store_put : List Str := ["self", "number", "at", "word"]
theorem sc_Store_put : FnScope N_Store_put ["self", "number", "at", "word"] (defScope s_Store_put) := ⟨rfl, rfl, rfl, by decide +kernel, rfl, by decide +kernel, by decide +kernel⟩
abbrev s_Store_slots : Stmt := inClass (top 8) 11
abbrev N_Store_slots : List Str := ["self", "number", "place"]
theorem sc_Store_slots : FnScope N_Store_slots ["self", "number"] (defScope s_Store_slots) := ⟨rfl, rfl, rfl, by decide +kernel, rfl, by decide +kernel, by decide +kernel⟩
abbrev s_Store_drop : Stmt := inClass (top 8) 12
abbrev N_Store_drop : List Str := ["self", "number"]
theorem sc_Store_drop : FnScope N_Store_drop ["self", "number"] (defScope s_Store_drop) := ⟨rfl, rfl, rfl, by decide +kernel, rfl, by decide +kernel, by decide +kernel⟩
abbrev s_Store_close_up : Stmt := inClass (top 8) 13
abbrev N_Store_close_up : List Str := ["self", "words", "places", "old", "number", "place"]
theorem sc_Store_close_up : FnScope N_Store_close_up ["self"] (defScope s_Store_close_up) := ⟨rfl, rfl, rfl, by decide +kernel, rfl, by decide +kernel, by decide +kernel⟩
abbrev s_Store_exchange : Stmt := inClass (top 8) 16
abbrev N_Store_exchange : List Str := ["self", "first", "second", "one", "other"]
theorem sc_Store_exchange : FnScope N_Store_exchange ["self", "first", "second"] (defScope s_Store_exchange) := ⟨rfl, rfl, rfl, by decide +kernel, rfl, by decide +kernel, by decide +kernel⟩
abbrev s__law_number : Stmt := top 10
abbrev N__law_number : List Str := ["_law_cell", "_law_k", "_law_mixed"]
theorem sc__law_number : FnScope N__law_number ["_law_cell", "_law_k"] (defScope s__law_number) := ⟨rfl, rfl, rfl, by decide +kernel, rfl, by decide +kernel, by decide +kernel⟩
abbrev s__law_word : Stmt := top 11
abbrev N__law_word : List Str := ["_law_x", "_law_rest"]
theorem sc__law_word : FnScope N__law_word ["_law_x"] (defScope s__law_word) := ⟨rfl, rfl, rfl, by decide +kernel, rfl, by decide +kernel, by decide +kernel⟩
abbrev s__law_is : Stmt := top 12
abbrev N__law_is : List Str := ["_law_actual", "_law_due"]
theorem sc__law_is : FnScope N__law_is ["_law_actual", "_law_due"] (defScope s__law_is) := ⟨rfl, rfl, rfl, by decide +kernel, rfl, by decide +kernel, by decide +kernel⟩
abbrev s__law_same : Stmt := top 13
abbrev N__law_same : List Str := ["_law_actual", "_law_due", "_law_k"]
theorem sc__law_same : FnScope N__law_same ["_law_actual", "_law_due"] (defScope s__law_same) := ⟨rfl, rfl, rfl, by decide +kernel, rfl, by decide +kernel, by decide +kernel⟩
abbrev s__law_built : Stmt := top 14
abbrev N__law_built : List Str := ["_law_store", "_law_x", "_law_things", "_law_rest", "_law_k", "_law_y", "_law_size", "_law_kind", "_law_contents", "_law_at"]
theorem sc__law_built : FnScope N__law_built ["_law_store", "_law_x"] (defScope s__law_built) := ⟨rfl, rfl, rfl, by decide +kernel, rfl, by decide +kernel, by decide +kernel⟩
abbrev s__law_agrees : Stmt := top 15
abbrev N__law_agrees : List Str := ["_law_store", "_law_things", "_law_living", "_law_number_here", "_law_due", "_law_at"]
theorem sc__law_agrees : FnScope N__law_agrees ["_law_store", "_law_things", "_law_living"] (defScope s__law_agrees) := ⟨rfl, rfl, rfl, by decide +kernel, rfl, by decide +kernel, by decide +kernel⟩
abbrev s__law_starts : Stmt := top 16
abbrev N__law_starts : List Str := ["_law_words", "_law_starts_here", "_law_at", "_law_k"]
theorem sc__law_starts : FnScope N__law_starts ["_law_words"] (defScope s__law_starts) := ⟨rfl, rfl, rfl, by decide +kernel, rfl, by decide +kernel, by decide +kernel⟩
abbrev s__law_changes : Stmt := top 17
abbrev N__law_changes : List Str := ["_law_before", "_law_after", "_law_first", "_law_second", "_law_starts_here", "_law_at", "_law_due"]
theorem sc__law_changes : FnScope N__law_changes ["_law_before", "_law_after", "_law_first", "_law_second"] (defScope s__law_changes) := ⟨rfl, rfl, rfl, by decide +kernel, rfl, by decide +kernel, by decide +kernel⟩
abbrev s_law : Stmt := top 18
abbrev N_law : List Str := ["_law_script", "_law_cells", "_law_cell", "_law_x", "_law_store", "_law_things", "_law_living", "_law_k", "_law_first_words", "_law_pairs", "_law_y", "_law_first", "_law_second", "_law_before", "_law_one", "_law_pair"]
theorem sc_law : FnScope N_law ["_law_script"] (defScope s_law) := ⟨rfl, rfl, rfl, by decide +kernel, rfl, by decide +kernel, by decide +kernel⟩
structure Wd (P : Program) (K : PySem.W.Frag) (mg : Str → Option Value) where
  n_bool : mg "bool" = none
  n_int : mg "int" = none
  n_isinstance : mg "isinstance" = none
  n_len : mg "len" = none
  n_list : mg "list" = none
  n_min : mg "min" = none
  n_range : mg "range" = none
  n_reversed : mg "reversed" = none
  n_sorted : mg "sorted" = none
  t_NIL : Tok
  g_NIL : mg "NIL" = some (.int (0) t_NIL)
  t_HEADER : Tok
  g_HEADER : mg "HEADER" = some (.int (3) t_HEADER)
  c_Store : Addr
  g_Store : mg "Store" = some (.ref c_Store)
  C_Store : Cls K c_Store
  na_Store_room : NoAttr K c_Store "room"
  na_Store_entries : NoAttr K c_Store "entries"
  na_Store_words : NoAttr K c_Store "words"
  na_Store__places : NoAttr K c_Store "_places"
  na_Store__least : NoAttr K c_Store "_least"
  f_Store___init__ : Addr
  fd_Store___init__ : FuncData
  F_Store___init__ : Fun K "__init__" "Store.__init__" s_Store___init__ f_Store___init__ fd_Store___init__
  M_Store : Mk K c_Store f_Store___init__
  b_Store___init__ : Binds K fd_Store___init__ ["self", "room", "entries"] []
  f_Store_numbers : Addr
  fd_Store_numbers : FuncData
  F_Store_numbers : Fun K "numbers" "Store.numbers" s_Store_numbers f_Store_numbers fd_Store_numbers
  m_Store_numbers : Meth K c_Store "numbers" f_Store_numbers
  b_Store_numbers : Binds K fd_Store_numbers ["self"] []
  f_Store_free_number : Addr
  fd_Store_free_number : FuncData
  F_Store_free_number : Fun K "free_number" "Store.free_number" s_Store_free_number f_Store_free_number fd_Store_free_number
  m_Store_free_number : Meth K c_Store "free_number" f_Store_free_number
  b_Store_free_number : Binds K fd_Store_free_number ["self"] []
  f_Store_allocate : Addr
  fd_Store_allocate : FuncData
  F_Store_allocate : Fun K "allocate" "Store.allocate" s_Store_allocate f_Store_allocate fd_Store_allocate
  m_Store_allocate : Meth K c_Store "allocate" f_Store_allocate
  b_Store_allocate : Binds K fd_Store_allocate ["self", "kind", "size"] []
  f_Store_size : Addr
  fd_Store_size : FuncData
  F_Store_size : Fun K "size" "Store.size" s_Store_size f_Store_size fd_Store_size
  m_Store_size : Meth K c_Store "size" f_Store_size
  b_Store_size : Binds K fd_Store_size ["self", "number"] []
  f_Store_kind : Addr
  fd_Store_kind : FuncData
  F_Store_kind : Fun K "kind" "Store.kind" s_Store_kind f_Store_kind fd_Store_kind
  m_Store_kind : Meth K c_Store "kind" f_Store_kind
  b_Store_kind : Binds K fd_Store_kind ["self", "number"] []
  f_Store_get : Addr
  fd_Store_get : FuncData
  F_Store_get : Fun K "get" "Store.get" s_Store_get f_Store_get fd_Store_get
  m_Store_get : Meth K c_Store "get" f_Store_get
  b_Store_get : Binds K fd_Store_get ["self", "number", "at"] []
  f_Store_put : Addr
  fd_Store_put : FuncData
  F_Store_put : Fun K "put" "Store.put" s_Store_put f_Store_put fd_Store_put
  m_Store_put : Meth K c_Store "put" f_Store_put
  b_Store_put : Binds K fd_Store_put ["self", "number", "at", "word"] []
  f_Store_slots : Addr
  fd_Store_slots : FuncData
  F_Store_slots : Fun K "slots" "Store.slots" s_Store_slots f_Store_slots fd_Store_slots
  m_Store_slots : Meth K c_Store "slots" f_Store_slots
  b_Store_slots : Binds K fd_Store_slots ["self", "number"] []
  f_Store_drop : Addr
  fd_Store_drop : FuncData
  F_Store_drop : Fun K "drop" "Store.drop" s_Store_drop f_Store_drop fd_Store_drop
  m_Store_drop : Meth K c_Store "drop" f_Store_drop
  b_Store_drop : Binds K fd_Store_drop ["self", "number"] []
  f_Store_close_up : Addr
  fd_Store_close_up : FuncData
  cA_Store_close_up : Addr
  PT_Store_close_up : Addr
  hd_Store_close_up : PySem.W.codeHdIn K cA_Store_close_up PT_Store_close_up = true
  np_Store_close_up : K.lookup PT_Store_close_up = none
  G_Store_close_up : FunC K "close_up" "Store.close_up" s_Store_close_up f_Store_close_up fd_Store_close_up cA_Store_close_up
  F_Store_close_up : Fun K "close_up" "Store.close_up" s_Store_close_up f_Store_close_up fd_Store_close_up
  m_Store_close_up : Meth K c_Store "close_up" f_Store_close_up
  b_Store_close_up : Binds K fd_Store_close_up ["self"] []
  f_Store_exchange : Addr
  fd_Store_exchange : FuncData
  F_Store_exchange : Fun K "exchange" "Store.exchange" s_Store_exchange f_Store_exchange fd_Store_exchange
  m_Store_exchange : Meth K c_Store "exchange" f_Store_exchange
  b_Store_exchange : Binds K fd_Store_exchange ["self", "first", "second"] []
  f__law_number : Addr
  fd__law_number : FuncData
  F__law_number : Fun K "_law_number" "_law_number" s__law_number f__law_number fd__law_number
  g__law_number : mg "_law_number" = some (.ref f__law_number)
  b__law_number : Binds K fd__law_number ["_law_cell", "_law_k"] []
  f__law_word : Addr
  fd__law_word : FuncData
  F__law_word : Fun K "_law_word" "_law_word" s__law_word f__law_word fd__law_word
  g__law_word : mg "_law_word" = some (.ref f__law_word)
  b__law_word : Binds K fd__law_word ["_law_x"] []
  f__law_is : Addr
  fd__law_is : FuncData
  F__law_is : Fun K "_law_is" "_law_is" s__law_is f__law_is fd__law_is
  g__law_is : mg "_law_is" = some (.ref f__law_is)
  b__law_is : Binds K fd__law_is ["_law_actual", "_law_due"] []
  f__law_same : Addr
  fd__law_same : FuncData
  F__law_same : Fun K "_law_same" "_law_same" s__law_same f__law_same fd__law_same
  g__law_same : mg "_law_same" = some (.ref f__law_same)
  b__law_same : Binds K fd__law_same ["_law_actual", "_law_due"] []
  f__law_built : Addr
  fd__law_built : FuncData
  F__law_built : Fun K "_law_built" "_law_built" s__law_built f__law_built fd__law_built
  g__law_built : mg "_law_built" = some (.ref f__law_built)
  b__law_built : Binds K fd__law_built ["_law_store", "_law_x"] []
  f__law_agrees : Addr
  fd__law_agrees : FuncData
  F__law_agrees : Fun K "_law_agrees" "_law_agrees" s__law_agrees f__law_agrees fd__law_agrees
  g__law_agrees : mg "_law_agrees" = some (.ref f__law_agrees)
  b__law_agrees : Binds K fd__law_agrees ["_law_store", "_law_things", "_law_living"] []
  f__law_starts : Addr
  fd__law_starts : FuncData
  F__law_starts : Fun K "_law_starts" "_law_starts" s__law_starts f__law_starts fd__law_starts
  g__law_starts : mg "_law_starts" = some (.ref f__law_starts)
  b__law_starts : Binds K fd__law_starts ["_law_words"] []
  f__law_changes : Addr
  fd__law_changes : FuncData
  F__law_changes : Fun K "_law_changes" "_law_changes" s__law_changes f__law_changes fd__law_changes
  g__law_changes : mg "_law_changes" = some (.ref f__law_changes)
  b__law_changes : Binds K fd__law_changes ["_law_before", "_law_after", "_law_first", "_law_second"] []
  f_law : Addr
  fd_law : FuncData
  F_law : Fun K "law" "law" s_law f_law fd_law
  g_law : mg "law" = some (.ref f_law)
  b_law : Binds K fd_law ["_law_script"] []
def mkW {l : PySem.W.OpenLaw} {K : PySem.W.Frag} {h : Heap} {mg : Str → Option Value} (X : K.In h) (G : h.Ns mainGlobals mg)
    {t_NIL : Tok}
    {t_HEADER : Tok}
    {C_Store : Addr}
    {ocStore___init__ kVStore___init__ dcStore___init__ pmStore___init__ cdStore___init__ ctStore___init__ : Value} {odStore___init__ anStore___init__ : Option Addr} {slStore___init__ : Array (Option Value)} {fStore___init__ : Addr}
    {ocStore_numbers kVStore_numbers dcStore_numbers pmStore_numbers cdStore_numbers ctStore_numbers : Value} {odStore_numbers anStore_numbers : Option Addr} {slStore_numbers : Array (Option Value)} {fStore_numbers : Addr}
    {ocStore_free_number kVStore_free_number dcStore_free_number pmStore_free_number cdStore_free_number ctStore_free_number : Value} {odStore_free_number anStore_free_number : Option Addr} {slStore_free_number : Array (Option Value)} {fStore_free_number : Addr}
    {ocStore_allocate kVStore_allocate dcStore_allocate pmStore_allocate cdStore_allocate ctStore_allocate : Value} {odStore_allocate anStore_allocate : Option Addr} {slStore_allocate : Array (Option Value)} {fStore_allocate : Addr}
    {ocStore_size kVStore_size dcStore_size pmStore_size cdStore_size ctStore_size : Value} {odStore_size anStore_size : Option Addr} {slStore_size : Array (Option Value)} {fStore_size : Addr}
    {ocStore_kind kVStore_kind dcStore_kind pmStore_kind cdStore_kind ctStore_kind : Value} {odStore_kind anStore_kind : Option Addr} {slStore_kind : Array (Option Value)} {fStore_kind : Addr}
    {ocStore_get kVStore_get dcStore_get pmStore_get cdStore_get ctStore_get : Value} {odStore_get anStore_get : Option Addr} {slStore_get : Array (Option Value)} {fStore_get : Addr}
    {ocStore_put kVStore_put dcStore_put pmStore_put cdStore_put ctStore_put : Value} {odStore_put anStore_put : Option Addr} {slStore_put : Array (Option Value)} {fStore_put : Addr}
    {ocStore_slots kVStore_slots dcStore_slots pmStore_slots cdStore_slots ctStore_slots : Value} {odStore_slots anStore_slots : Option Addr} {slStore_slots : Array (Option Value)} {fStore_slots : Addr}
    {ocStore_drop kVStore_drop dcStore_drop pmStore_drop cdStore_drop ctStore_drop : Value} {odStore_drop anStore_drop : Option Addr} {slStore_drop : Array (Option Value)} {fStore_drop : Addr}
    {ocStore_close_up kVStore_close_up dcStore_close_up pmStore_close_up cdStore_close_up ctStore_close_up : Value} {odStore_close_up anStore_close_up : Option Addr} {slStore_close_up : Array (Option Value)} {fStore_close_up : Addr}
    {cAStore_close_up PTStore_close_up : Addr} {cclStore_close_up : Value} {cddStore_close_up : Option Addr} {vsStore_close_up : Array Value} {ccsStore_close_up : Array (Option Value)}
    {ocStore_exchange kVStore_exchange dcStore_exchange pmStore_exchange cdStore_exchange ctStore_exchange : Value} {odStore_exchange anStore_exchange : Option Addr} {slStore_exchange : Array (Option Value)} {fStore_exchange : Addr}
    {oc_law_number kV_law_number dc_law_number pm_law_number cd_law_number ct_law_number : Value} {od_law_number an_law_number : Option Addr} {sl_law_number : Array (Option Value)} {f_law_number : Addr}
    {oc_law_word kV_law_word dc_law_word pm_law_word cd_law_word ct_law_word : Value} {od_law_word an_law_word : Option Addr} {sl_law_word : Array (Option Value)} {f_law_word : Addr}
    {oc_law_is kV_law_is dc_law_is pm_law_is cd_law_is ct_law_is : Value} {od_law_is an_law_is : Option Addr} {sl_law_is : Array (Option Value)} {f_law_is : Addr}
    {oc_law_same kV_law_same dc_law_same pm_law_same cd_law_same ct_law_same : Value} {od_law_same an_law_same : Option Addr} {sl_law_same : Array (Option Value)} {f_law_same : Addr}
    {oc_law_built kV_law_built dc_law_built pm_law_built cd_law_built ct_law_built : Value} {od_law_built an_law_built : Option Addr} {sl_law_built : Array (Option Value)} {f_law_built : Addr}
    {oc_law_agrees kV_law_agrees dc_law_agrees pm_law_agrees cd_law_agrees ct_law_agrees : Value} {od_law_agrees an_law_agrees : Option Addr} {sl_law_agrees : Array (Option Value)} {f_law_agrees : Addr}
    {oc_law_starts kV_law_starts dc_law_starts pm_law_starts cd_law_starts ct_law_starts : Value} {od_law_starts an_law_starts : Option Addr} {sl_law_starts : Array (Option Value)} {f_law_starts : Addr}
    {oc_law_changes kV_law_changes dc_law_changes pm_law_changes cd_law_changes ct_law_changes : Value} {od_law_changes an_law_changes : Option Addr} {sl_law_changes : Array (Option Value)} {f_law_changes : Addr}
    {oclaw kVlaw dclaw pmlaw cdlaw ctlaw : Value} {odlaw anlaw : Option Addr} {sllaw : Array (Option Value)} {flaw : Addr}
    (z_bool : PySem.W.nsIn K mainGlobals "bool" = some none)
    (z_int : PySem.W.nsIn K mainGlobals "int" = some none)
    (z_isinstance : PySem.W.nsIn K mainGlobals "isinstance" = some none)
    (z_len : PySem.W.nsIn K mainGlobals "len" = some none)
    (z_list : PySem.W.nsIn K mainGlobals "list" = some none)
    (z_min : PySem.W.nsIn K mainGlobals "min" = some none)
    (z_range : PySem.W.nsIn K mainGlobals "range" = some none)
    (z_reversed : PySem.W.nsIn K mainGlobals "reversed" = some none)
    (z_sorted : PySem.W.nsIn K mainGlobals "sorted" = some none)
    (c_NIL : PySem.W.nsIn K mainGlobals "NIL" = some (some (.int (0) t_NIL)))
    (c_HEADER : PySem.W.nsIn K mainGlobals "HEADER" = some (some (.int (3) t_HEADER)))
    (cl_Store : PySem.W.nsIn K mainGlobals "Store" = some (some (.ref C_Store)))
    (pg_Store : PySem.W.plainGet K C_Store Str.empty = true)
    (hd_Store : PySem.W.hasDictIn K C_Store = true)
    (po_Store : PySem.W.plainOver K C_Store = true)
    (sa_Store : PySem.W.findIn K (.ref C_Store) "__setattr__" = some (some (.builtin "object.__setattr__")))
    (mk_Store : PySem.W.makesIn K C_Store = true)
    (kp_Store : PySem.W.keepIn K (.ref C_Store) = true)
    (na_Store_room : PySem.W.findIn K (.ref C_Store) "room" = some none)
    (na_Store_entries : PySem.W.findIn K (.ref C_Store) "entries" = some none)
    (na_Store_words : PySem.W.findIn K (.ref C_Store) "words" = some none)
    (na_Store__places : PySem.W.findIn K (.ref C_Store) "_places" = some none)
    (na_Store__least : PySem.W.findIn K (.ref C_Store) "_least" = some none)
    (a_Store___init__ : PySem.W.findIn K (.ref C_Store) "__init__" = some (some (.ref fStore___init__)))
    (l_Store___init__ : K.lookup fStore___init__ = some ⟨ocStore___init__, odStore___init__, .func (PySem.W.fnOf "__init__" "Store.__init__" (defArgs s_Store___init__) (defBody s_Store___init__) (defScope s_Store___init__) .none kVStore___init__ dcStore___init__ pmStore___init__ anStore___init__ cdStore___init__ ctStore___init__), slStore___init__⟩)
    (c_Store___init__ : PySem.W.codeIn K cdStore___init__ "Store.__init__" = true)
    (k_Store___init__ : PySem.W.keepIn K (.ref fStore___init__) = true)
    (fn_Store___init__ : PySem.W.isFn K (.ref fStore___init__) = true)
    (a_Store_numbers : PySem.W.findIn K (.ref C_Store) "numbers" = some (some (.ref fStore_numbers)))
    (l_Store_numbers : K.lookup fStore_numbers = some ⟨ocStore_numbers, odStore_numbers, .func (PySem.W.fnOf "numbers" "Store.numbers" (defArgs s_Store_numbers) (defBody s_Store_numbers) (defScope s_Store_numbers) .none kVStore_numbers dcStore_numbers pmStore_numbers anStore_numbers cdStore_numbers ctStore_numbers), slStore_numbers⟩)
    (c_Store_numbers : PySem.W.codeIn K cdStore_numbers "Store.numbers" = true)
    (k_Store_numbers : PySem.W.keepIn K (.ref fStore_numbers) = true)
    (fn_Store_numbers : PySem.W.isFn K (.ref fStore_numbers) = true)
    (a_Store_free_number : PySem.W.findIn K (.ref C_Store) "free_number" = some (some (.ref fStore_free_number)))
    (l_Store_free_number : K.lookup fStore_free_number = some ⟨ocStore_free_number, odStore_free_number, .func (PySem.W.fnOf "free_number" "Store.free_number" (defArgs s_Store_free_number) (defBody s_Store_free_number) (defScope s_Store_free_number) .none kVStore_free_number dcStore_free_number pmStore_free_number anStore_free_number cdStore_free_number ctStore_free_number), slStore_free_number⟩)
    (c_Store_free_number : PySem.W.codeIn K cdStore_free_number "Store.free_number" = true)
    (k_Store_free_number : PySem.W.keepIn K (.ref fStore_free_number) = true)
    (fn_Store_free_number : PySem.W.isFn K (.ref fStore_free_number) = true)
    (a_Store_allocate : PySem.W.findIn K (.ref C_Store) "allocate" = some (some (.ref fStore_allocate)))
    (l_Store_allocate : K.lookup fStore_allocate = some ⟨ocStore_allocate, odStore_allocate, .func (PySem.W.fnOf "allocate" "Store.allocate" (defArgs s_Store_allocate) (defBody s_Store_allocate) (defScope s_Store_allocate) .none kVStore_allocate dcStore_allocate pmStore_allocate anStore_allocate cdStore_allocate ctStore_allocate), slStore_allocate⟩)
    (c_Store_allocate : PySem.W.codeIn K cdStore_allocate "Store.allocate" = true)
    (k_Store_allocate : PySem.W.keepIn K (.ref fStore_allocate) = true)
    (fn_Store_allocate : PySem.W.isFn K (.ref fStore_allocate) = true)
    (a_Store_size : PySem.W.findIn K (.ref C_Store) "size" = some (some (.ref fStore_size)))
    (l_Store_size : K.lookup fStore_size = some ⟨ocStore_size, odStore_size, .func (PySem.W.fnOf "size" "Store.size" (defArgs s_Store_size) (defBody s_Store_size) (defScope s_Store_size) .none kVStore_size dcStore_size pmStore_size anStore_size cdStore_size ctStore_size), slStore_size⟩)
    (c_Store_size : PySem.W.codeIn K cdStore_size "Store.size" = true)
    (k_Store_size : PySem.W.keepIn K (.ref fStore_size) = true)
    (fn_Store_size : PySem.W.isFn K (.ref fStore_size) = true)
    (a_Store_kind : PySem.W.findIn K (.ref C_Store) "kind" = some (some (.ref fStore_kind)))
    (l_Store_kind : K.lookup fStore_kind = some ⟨ocStore_kind, odStore_kind, .func (PySem.W.fnOf "kind" "Store.kind" (defArgs s_Store_kind) (defBody s_Store_kind) (defScope s_Store_kind) .none kVStore_kind dcStore_kind pmStore_kind anStore_kind cdStore_kind ctStore_kind), slStore_kind⟩)
    (c_Store_kind : PySem.W.codeIn K cdStore_kind "Store.kind" = true)
    (k_Store_kind : PySem.W.keepIn K (.ref fStore_kind) = true)
    (fn_Store_kind : PySem.W.isFn K (.ref fStore_kind) = true)
    (a_Store_get : PySem.W.findIn K (.ref C_Store) "get" = some (some (.ref fStore_get)))
    (l_Store_get : K.lookup fStore_get = some ⟨ocStore_get, odStore_get, .func (PySem.W.fnOf "get" "Store.get" (defArgs s_Store_get) (defBody s_Store_get) (defScope s_Store_get) .none kVStore_get dcStore_get pmStore_get anStore_get cdStore_get ctStore_get), slStore_get⟩)
    (c_Store_get : PySem.W.codeIn K cdStore_get "Store.get" = true)
    (k_Store_get : PySem.W.keepIn K (.ref fStore_get) = true)
    (fn_Store_get : PySem.W.isFn K (.ref fStore_get) = true)
    (a_Store_put : PySem.W.findIn K (.ref C_Store) "put" = some (some (.ref fStore_put)))
    (l_Store_put : K.lookup fStore_put = some ⟨ocStore_put, odStore_put, .func (PySem.W.fnOf "put" "Store.put" (defArgs s_Store_put) (defBody s_Store_put) (defScope s_Store_put) .none kVStore_put dcStore_put pmStore_put anStore_put cdStore_put ctStore_put), slStore_put⟩)
    (c_Store_put : PySem.W.codeIn K cdStore_put "Store.put" = true)
    (k_Store_put : PySem.W.keepIn K (.ref fStore_put) = true)
    (fn_Store_put : PySem.W.isFn K (.ref fStore_put) = true)
    (a_Store_slots : PySem.W.findIn K (.ref C_Store) "slots" = some (some (.ref fStore_slots)))
    (l_Store_slots : K.lookup fStore_slots = some ⟨ocStore_slots, odStore_slots, .func (PySem.W.fnOf "slots" "Store.slots" (defArgs s_Store_slots) (defBody s_Store_slots) (defScope s_Store_slots) .none kVStore_slots dcStore_slots pmStore_slots anStore_slots cdStore_slots ctStore_slots), slStore_slots⟩)
    (c_Store_slots : PySem.W.codeIn K cdStore_slots "Store.slots" = true)
    (k_Store_slots : PySem.W.keepIn K (.ref fStore_slots) = true)
    (fn_Store_slots : PySem.W.isFn K (.ref fStore_slots) = true)
    (a_Store_drop : PySem.W.findIn K (.ref C_Store) "drop" = some (some (.ref fStore_drop)))
    (l_Store_drop : K.lookup fStore_drop = some ⟨ocStore_drop, odStore_drop, .func (PySem.W.fnOf "drop" "Store.drop" (defArgs s_Store_drop) (defBody s_Store_drop) (defScope s_Store_drop) .none kVStore_drop dcStore_drop pmStore_drop anStore_drop cdStore_drop ctStore_drop), slStore_drop⟩)
    (c_Store_drop : PySem.W.codeIn K cdStore_drop "Store.drop" = true)
    (k_Store_drop : PySem.W.keepIn K (.ref fStore_drop) = true)
    (fn_Store_drop : PySem.W.isFn K (.ref fStore_drop) = true)
    (a_Store_close_up : PySem.W.findIn K (.ref C_Store) "close_up" = some (some (.ref fStore_close_up)))
    (l_Store_close_up : K.lookup fStore_close_up = some ⟨ocStore_close_up, odStore_close_up, .func (PySem.W.fnOf "close_up" "Store.close_up" (defArgs s_Store_close_up) (defBody s_Store_close_up) (defScope s_Store_close_up) .none kVStore_close_up dcStore_close_up pmStore_close_up anStore_close_up (.ref cAStore_close_up) ctStore_close_up), slStore_close_up⟩)
    (c_Store_close_up : PySem.W.codeIn K (.ref cAStore_close_up) "Store.close_up" = true)
    (k_Store_close_up : PySem.W.keepIn K (.ref fStore_close_up) = true)
    (x1_Store_close_up : K.lookup cAStore_close_up = some ⟨cclStore_close_up, cddStore_close_up, .fields vsStore_close_up, ccsStore_close_up⟩)
    (x2_Store_close_up : vsStore_close_up[11]? = some (.ref PTStore_close_up))
    (x3_Store_close_up : PySem.W.codeHdIn K cAStore_close_up PTStore_close_up = true)
    (x4_Store_close_up : K.lookup PTStore_close_up = none)
    (fn_Store_close_up : PySem.W.isFn K (.ref fStore_close_up) = true)
    (a_Store_exchange : PySem.W.findIn K (.ref C_Store) "exchange" = some (some (.ref fStore_exchange)))
    (l_Store_exchange : K.lookup fStore_exchange = some ⟨ocStore_exchange, odStore_exchange, .func (PySem.W.fnOf "exchange" "Store.exchange" (defArgs s_Store_exchange) (defBody s_Store_exchange) (defScope s_Store_exchange) .none kVStore_exchange dcStore_exchange pmStore_exchange anStore_exchange cdStore_exchange ctStore_exchange), slStore_exchange⟩)
    (c_Store_exchange : PySem.W.codeIn K cdStore_exchange "Store.exchange" = true)
    (k_Store_exchange : PySem.W.keepIn K (.ref fStore_exchange) = true)
    (fn_Store_exchange : PySem.W.isFn K (.ref fStore_exchange) = true)
    (a__law_number : PySem.W.nsIn K mainGlobals "_law_number" = some (some (.ref f_law_number)))
    (l__law_number : K.lookup f_law_number = some ⟨oc_law_number, od_law_number, .func (PySem.W.fnOf "_law_number" "_law_number" (defArgs s__law_number) (defBody s__law_number) (defScope s__law_number) .none kV_law_number dc_law_number pm_law_number an_law_number cd_law_number ct_law_number), sl_law_number⟩)
    (c__law_number : PySem.W.codeIn K cd_law_number "_law_number" = true)
    (k__law_number : PySem.W.keepIn K (.ref f_law_number) = true)
    (a__law_word : PySem.W.nsIn K mainGlobals "_law_word" = some (some (.ref f_law_word)))
    (l__law_word : K.lookup f_law_word = some ⟨oc_law_word, od_law_word, .func (PySem.W.fnOf "_law_word" "_law_word" (defArgs s__law_word) (defBody s__law_word) (defScope s__law_word) .none kV_law_word dc_law_word pm_law_word an_law_word cd_law_word ct_law_word), sl_law_word⟩)
    (c__law_word : PySem.W.codeIn K cd_law_word "_law_word" = true)
    (k__law_word : PySem.W.keepIn K (.ref f_law_word) = true)
    (a__law_is : PySem.W.nsIn K mainGlobals "_law_is" = some (some (.ref f_law_is)))
    (l__law_is : K.lookup f_law_is = some ⟨oc_law_is, od_law_is, .func (PySem.W.fnOf "_law_is" "_law_is" (defArgs s__law_is) (defBody s__law_is) (defScope s__law_is) .none kV_law_is dc_law_is pm_law_is an_law_is cd_law_is ct_law_is), sl_law_is⟩)
    (c__law_is : PySem.W.codeIn K cd_law_is "_law_is" = true)
    (k__law_is : PySem.W.keepIn K (.ref f_law_is) = true)
    (a__law_same : PySem.W.nsIn K mainGlobals "_law_same" = some (some (.ref f_law_same)))
    (l__law_same : K.lookup f_law_same = some ⟨oc_law_same, od_law_same, .func (PySem.W.fnOf "_law_same" "_law_same" (defArgs s__law_same) (defBody s__law_same) (defScope s__law_same) .none kV_law_same dc_law_same pm_law_same an_law_same cd_law_same ct_law_same), sl_law_same⟩)
    (c__law_same : PySem.W.codeIn K cd_law_same "_law_same" = true)
    (k__law_same : PySem.W.keepIn K (.ref f_law_same) = true)
    (a__law_built : PySem.W.nsIn K mainGlobals "_law_built" = some (some (.ref f_law_built)))
    (l__law_built : K.lookup f_law_built = some ⟨oc_law_built, od_law_built, .func (PySem.W.fnOf "_law_built" "_law_built" (defArgs s__law_built) (defBody s__law_built) (defScope s__law_built) .none kV_law_built dc_law_built pm_law_built an_law_built cd_law_built ct_law_built), sl_law_built⟩)
    (c__law_built : PySem.W.codeIn K cd_law_built "_law_built" = true)
    (k__law_built : PySem.W.keepIn K (.ref f_law_built) = true)
    (a__law_agrees : PySem.W.nsIn K mainGlobals "_law_agrees" = some (some (.ref f_law_agrees)))
    (l__law_agrees : K.lookup f_law_agrees = some ⟨oc_law_agrees, od_law_agrees, .func (PySem.W.fnOf "_law_agrees" "_law_agrees" (defArgs s__law_agrees) (defBody s__law_agrees) (defScope s__law_agrees) .none kV_law_agrees dc_law_agrees pm_law_agrees an_law_agrees cd_law_agrees ct_law_agrees), sl_law_agrees⟩)
    (c__law_agrees : PySem.W.codeIn K cd_law_agrees "_law_agrees" = true)
    (k__law_agrees : PySem.W.keepIn K (.ref f_law_agrees) = true)
    (a__law_starts : PySem.W.nsIn K mainGlobals "_law_starts" = some (some (.ref f_law_starts)))
    (l__law_starts : K.lookup f_law_starts = some ⟨oc_law_starts, od_law_starts, .func (PySem.W.fnOf "_law_starts" "_law_starts" (defArgs s__law_starts) (defBody s__law_starts) (defScope s__law_starts) .none kV_law_starts dc_law_starts pm_law_starts an_law_starts cd_law_starts ct_law_starts), sl_law_starts⟩)
    (c__law_starts : PySem.W.codeIn K cd_law_starts "_law_starts" = true)
    (k__law_starts : PySem.W.keepIn K (.ref f_law_starts) = true)
    (a__law_changes : PySem.W.nsIn K mainGlobals "_law_changes" = some (some (.ref f_law_changes)))
    (l__law_changes : K.lookup f_law_changes = some ⟨oc_law_changes, od_law_changes, .func (PySem.W.fnOf "_law_changes" "_law_changes" (defArgs s__law_changes) (defBody s__law_changes) (defScope s__law_changes) .none kV_law_changes dc_law_changes pm_law_changes an_law_changes cd_law_changes ct_law_changes), sl_law_changes⟩)
    (c__law_changes : PySem.W.codeIn K cd_law_changes "_law_changes" = true)
    (k__law_changes : PySem.W.keepIn K (.ref f_law_changes) = true)
    (a_law : PySem.W.nsIn K mainGlobals "law" = some (some (.ref flaw)))
    (l_law : K.lookup flaw = some ⟨oclaw, odlaw, .func (PySem.W.fnOf "law" "law" (defArgs s_law) (defBody s_law) (defScope s_law) .none kVlaw dclaw pmlaw anlaw cdlaw ctlaw), sllaw⟩)
    (c_law : PySem.W.codeIn K cdlaw "law" = true)
    (k_law : PySem.W.keepIn K (.ref flaw) = true) : Wd l.prog K mg :=
  { n_bool := PySem.W.mg_none_of X G z_bool,
    n_int := PySem.W.mg_none_of X G z_int,
    n_isinstance := PySem.W.mg_none_of X G z_isinstance,
    n_len := PySem.W.mg_none_of X G z_len,
    n_list := PySem.W.mg_none_of X G z_list,
    n_min := PySem.W.mg_none_of X G z_min,
    n_range := PySem.W.mg_none_of X G z_range,
    n_reversed := PySem.W.mg_none_of X G z_reversed,
    n_sorted := PySem.W.mg_none_of X G z_sorted,
    t_NIL := t_NIL, g_NIL := PySem.W.mg_of X G c_NIL,
    t_HEADER := t_HEADER, g_HEADER := PySem.W.mg_of X G c_HEADER,
    c_Store := C_Store, g_Store := PySem.W.mg_of X G cl_Store,
    C_Store := ⟨pg_Store, hd_Store, po_Store, sa_Store⟩,
    na_Store_room := na_Store_room,
    na_Store_entries := na_Store_entries,
    na_Store_words := na_Store_words,
    na_Store__places := na_Store__places,
    na_Store__least := na_Store__least,
    f_Store___init__ := fStore___init__, fd_Store___init__ := _, F_Store___init__ := fun_mk (st := s_Store___init__) l_Store___init__ c_Store___init__ k_Store___init__,
    M_Store := ⟨mk_Store, a_Store___init__, fn_Store___init__, kp_Store⟩,
    b_Store___init__ := (fun_mk (st := s_Store___init__) l_Store___init__ c_Store___init__ k_Store___init__).binds (ps := ["self", "room", "entries"]) fun _ _ _ _ _ _ us hl => match us, hl with | [_, _, _], _ => rfl,
    f_Store_numbers := fStore_numbers, fd_Store_numbers := _, F_Store_numbers := fun_mk (st := s_Store_numbers) l_Store_numbers c_Store_numbers k_Store_numbers,
    m_Store_numbers := ⟨a_Store_numbers, fn_Store_numbers, k_Store_numbers⟩,
    b_Store_numbers := (fun_mk (st := s_Store_numbers) l_Store_numbers c_Store_numbers k_Store_numbers).binds (ps := ["self"]) fun _ _ _ _ _ _ us hl => match us, hl with | [_], _ => rfl,
    f_Store_free_number := fStore_free_number, fd_Store_free_number := _, F_Store_free_number := fun_mk (st := s_Store_free_number) l_Store_free_number c_Store_free_number k_Store_free_number,
    m_Store_free_number := ⟨a_Store_free_number, fn_Store_free_number, k_Store_free_number⟩,
    b_Store_free_number := (fun_mk (st := s_Store_free_number) l_Store_free_number c_Store_free_number k_Store_free_number).binds (ps := ["self"]) fun _ _ _ _ _ _ us hl => match us, hl with | [_], _ => rfl,
    f_Store_allocate := fStore_allocate, fd_Store_allocate := _, F_Store_allocate := fun_mk (st := s_Store_allocate) l_Store_allocate c_Store_allocate k_Store_allocate,
    m_Store_allocate := ⟨a_Store_allocate, fn_Store_allocate, k_Store_allocate⟩,
    b_Store_allocate := (fun_mk (st := s_Store_allocate) l_Store_allocate c_Store_allocate k_Store_allocate).binds (ps := ["self", "kind", "size"]) fun _ _ _ _ _ _ us hl => match us, hl with | [_, _, _], _ => rfl,
    f_Store_size := fStore_size, fd_Store_size := _, F_Store_size := fun_mk (st := s_Store_size) l_Store_size c_Store_size k_Store_size,
    m_Store_size := ⟨a_Store_size, fn_Store_size, k_Store_size⟩,
    b_Store_size := (fun_mk (st := s_Store_size) l_Store_size c_Store_size k_Store_size).binds (ps := ["self", "number"]) fun _ _ _ _ _ _ us hl => match us, hl with | [_, _], _ => rfl,
    f_Store_kind := fStore_kind, fd_Store_kind := _, F_Store_kind := fun_mk (st := s_Store_kind) l_Store_kind c_Store_kind k_Store_kind,
    m_Store_kind := ⟨a_Store_kind, fn_Store_kind, k_Store_kind⟩,
    b_Store_kind := (fun_mk (st := s_Store_kind) l_Store_kind c_Store_kind k_Store_kind).binds (ps := ["self", "number"]) fun _ _ _ _ _ _ us hl => match us, hl with | [_, _], _ => rfl,
    f_Store_get := fStore_get, fd_Store_get := _, F_Store_get := fun_mk (st := s_Store_get) l_Store_get c_Store_get k_Store_get,
    m_Store_get := ⟨a_Store_get, fn_Store_get, k_Store_get⟩,
    b_Store_get := (fun_mk (st := s_Store_get) l_Store_get c_Store_get k_Store_get).binds (ps := ["self", "number", "at"]) fun _ _ _ _ _ _ us hl => match us, hl with | [_, _, _], _ => rfl,
    f_Store_put := fStore_put, fd_Store_put := _, F_Store_put := fun_mk (st := s_Store_put) l_Store_put c_Store_put k_Store_put,
    m_Store_put := ⟨a_Store_put, fn_Store_put, k_Store_put⟩,
    b_Store_put := (fun_mk (st := s_Store_put) l_Store_put c_Store_put k_Store_put).binds (ps := ["self", "number", "at", "word"]) fun _ _ _ _ _ _ us hl => match us, hl with | [_, _, _, _], _ => rfl,
    f_Store_slots := fStore_slots, fd_Store_slots := _, F_Store_slots := fun_mk (st := s_Store_slots) l_Store_slots c_Store_slots k_Store_slots,
    m_Store_slots := ⟨a_Store_slots, fn_Store_slots, k_Store_slots⟩,
    b_Store_slots := (fun_mk (st := s_Store_slots) l_Store_slots c_Store_slots k_Store_slots).binds (ps := ["self", "number"]) fun _ _ _ _ _ _ us hl => match us, hl with | [_, _], _ => rfl,
    f_Store_drop := fStore_drop, fd_Store_drop := _, F_Store_drop := fun_mk (st := s_Store_drop) l_Store_drop c_Store_drop k_Store_drop,
    m_Store_drop := ⟨a_Store_drop, fn_Store_drop, k_Store_drop⟩,
    b_Store_drop := (fun_mk (st := s_Store_drop) l_Store_drop c_Store_drop k_Store_drop).binds (ps := ["self", "number"]) fun _ _ _ _ _ _ us hl => match us, hl with | [_, _], _ => rfl,
    f_Store_close_up := fStore_close_up, fd_Store_close_up := _, F_Store_close_up := fun_mk (st := s_Store_close_up) l_Store_close_up c_Store_close_up k_Store_close_up, cA_Store_close_up := cAStore_close_up, PT_Store_close_up := PTStore_close_up, hd_Store_close_up := x3_Store_close_up, np_Store_close_up := x4_Store_close_up, G_Store_close_up := ⟨_, _, _, _, _, _, _, _, rfl, l_Store_close_up, c_Store_close_up⟩,
    m_Store_close_up := ⟨a_Store_close_up, fn_Store_close_up, k_Store_close_up⟩,
    b_Store_close_up := (fun_mk (st := s_Store_close_up) l_Store_close_up c_Store_close_up k_Store_close_up).binds (ps := ["self"]) fun _ _ _ _ _ _ us hl => match us, hl with | [_], _ => rfl,
    f_Store_exchange := fStore_exchange, fd_Store_exchange := _, F_Store_exchange := fun_mk (st := s_Store_exchange) l_Store_exchange c_Store_exchange k_Store_exchange,
    m_Store_exchange := ⟨a_Store_exchange, fn_Store_exchange, k_Store_exchange⟩,
    b_Store_exchange := (fun_mk (st := s_Store_exchange) l_Store_exchange c_Store_exchange k_Store_exchange).binds (ps := ["self", "first", "second"]) fun _ _ _ _ _ _ us hl => match us, hl with | [_, _, _], _ => rfl,
    f__law_number := f_law_number, fd__law_number := _, F__law_number := fun_mk (st := s__law_number) l__law_number c__law_number k__law_number,
    g__law_number := PySem.W.mg_of X G a__law_number,
    b__law_number := (fun_mk (st := s__law_number) l__law_number c__law_number k__law_number).binds (ps := ["_law_cell", "_law_k"]) fun _ _ _ _ _ _ us hl => match us, hl with | [_, _], _ => rfl,
    f__law_word := f_law_word, fd__law_word := _, F__law_word := fun_mk (st := s__law_word) l__law_word c__law_word k__law_word,
    g__law_word := PySem.W.mg_of X G a__law_word,
    b__law_word := (fun_mk (st := s__law_word) l__law_word c__law_word k__law_word).binds (ps := ["_law_x"]) fun _ _ _ _ _ _ us hl => match us, hl with | [_], _ => rfl,
    f__law_is := f_law_is, fd__law_is := _, F__law_is := fun_mk (st := s__law_is) l__law_is c__law_is k__law_is,
    g__law_is := PySem.W.mg_of X G a__law_is,
    b__law_is := (fun_mk (st := s__law_is) l__law_is c__law_is k__law_is).binds (ps := ["_law_actual", "_law_due"]) fun _ _ _ _ _ _ us hl => match us, hl with | [_, _], _ => rfl,
    f__law_same := f_law_same, fd__law_same := _, F__law_same := fun_mk (st := s__law_same) l__law_same c__law_same k__law_same,
    g__law_same := PySem.W.mg_of X G a__law_same,
    b__law_same := (fun_mk (st := s__law_same) l__law_same c__law_same k__law_same).binds (ps := ["_law_actual", "_law_due"]) fun _ _ _ _ _ _ us hl => match us, hl with | [_, _], _ => rfl,
    f__law_built := f_law_built, fd__law_built := _, F__law_built := fun_mk (st := s__law_built) l__law_built c__law_built k__law_built,
    g__law_built := PySem.W.mg_of X G a__law_built,
    b__law_built := (fun_mk (st := s__law_built) l__law_built c__law_built k__law_built).binds (ps := ["_law_store", "_law_x"]) fun _ _ _ _ _ _ us hl => match us, hl with | [_, _], _ => rfl,
    f__law_agrees := f_law_agrees, fd__law_agrees := _, F__law_agrees := fun_mk (st := s__law_agrees) l__law_agrees c__law_agrees k__law_agrees,
    g__law_agrees := PySem.W.mg_of X G a__law_agrees,
    b__law_agrees := (fun_mk (st := s__law_agrees) l__law_agrees c__law_agrees k__law_agrees).binds (ps := ["_law_store", "_law_things", "_law_living"]) fun _ _ _ _ _ _ us hl => match us, hl with | [_, _, _], _ => rfl,
    f__law_starts := f_law_starts, fd__law_starts := _, F__law_starts := fun_mk (st := s__law_starts) l__law_starts c__law_starts k__law_starts,
    g__law_starts := PySem.W.mg_of X G a__law_starts,
    b__law_starts := (fun_mk (st := s__law_starts) l__law_starts c__law_starts k__law_starts).binds (ps := ["_law_words"]) fun _ _ _ _ _ _ us hl => match us, hl with | [_], _ => rfl,
    f__law_changes := f_law_changes, fd__law_changes := _, F__law_changes := fun_mk (st := s__law_changes) l__law_changes c__law_changes k__law_changes,
    g__law_changes := PySem.W.mg_of X G a__law_changes,
    b__law_changes := (fun_mk (st := s__law_changes) l__law_changes c__law_changes k__law_changes).binds (ps := ["_law_before", "_law_after", "_law_first", "_law_second"]) fun _ _ _ _ _ _ us hl => match us, hl with | [_, _, _, _], _ => rfl,
    f_law := flaw, fd_law := _, F_law := fun_mk (st := s_law) l_law c_law k_law,
    g_law := PySem.W.mg_of X G a_law,
    b_law := (fun_mk (st := s_law) l_law c_law k_law).binds (ps := ["_law_script"]) fun _ _ _ _ _ _ us hl => match us, hl with | [_], _ => rfl }

structure WT (P : Program) (K : PySem.W.Frag) (mg : Str → Option Value) (base : Heap) extends Wd P K mg where
  TB : LamX.TabB base mg cA_Store_close_up PT_Store_close_up
abbrev qLam : Str := (envOfC "Store.close_up" (defScope s_Store_close_up) 0 0 .none).qual ++ "<lambda>"

end LX
namespace LX
open PySem PySem.Spec PyProof.Rows L2 NdefX
section
variable {P : Program} {w : World} {K : PySem.W.Frag} {mg : Str → Option Value} {base : Heap}
def sF (room entries : Int) (wl pl : Addr) (least : Int) : List (Str × V) := [("room", .int room), ("entries", .int entries), ("words", .ref wl), ("_places", .ref pl), ("_least", .int least)]
structure StoreAt (H : Hp) (C st dx wl pl : Addr) (room entries least : Int) (ws : List Int) (kvs : List (Key × V)) : Prop where
  st : H st = some (.ins C dx (sF room entries wl pl least))
  wl : H wl = some (.lst (ws.map V.int))
  pl : H pl = some (.dK kvs)
theorem int_at {ws : List Int} {i : Nat} {z : Int} (h : ws[i]? = some z) : (ws.map V.int)[i]? = some (V.int z) := by rw [List.getElem?_map, h]; rfl
theorem ixN_nat {n i : Nat} (h : i < n) : ixN n (i : Int) = some i := by
  unfold ixN
  rw [if_pos (by omega), if_pos (by omega)]
  simp
def sp_size : Addr → Sp := fun C vs H Q _ => ∃ st dx wl pl room entries least ws kvs n, ∃ (p : Nat) (z : Int), vs = [.ref st, .int n] ∧ StoreAt H C st dx wl pl room entries least ws kvs ∧ valV kvs (.inl n) = some (.int (p : Int)) ∧ ws[p + 1]? = some z ∧ Q (.int z) H
theorem ok_Store_size (W : WT P K mg base) : FnOk P w K mg base CX0 1 W.f_Store_size W.fd_Store_size ["self", "number"] (sp_size W.c_Store) := by
  refine W.F_Store_size.ok sc_Store_size (fun vs H Q E h => ?_) (fun cdv A outer s H vs Q E hr h => ?_)
  · obtain ⟨st, dx, wl, pl, room, entries, least, ws, kvs, n, p, z, rfl, _⟩ := h
    rfl
  · obtain ⟨st, dx, wl, pl, room, entries, least, ws, kvs, n, p, z, rfl, S, hp, hz, k⟩ := h
    have hu1 := hu_of hr
    have hu64 := hu64_of hr
    refine ⟨_, (pss_one (ps_ret (pe_ix (ix_U hu1) (pe_fld (pv 0) rfl) (pe_op op_addU (pe_ix (ix_U hu1) (pe_fld (pv 0) rfl) (pv 1) (fun _ _ => rfl)) pe_int) (fun _ _ => rfl)))), ?_⟩
    refine ⟨_, rfl, st, _, dx, _, _, rfl, S.st, W.C_Store, W.na_Store_words, rfl, ?_⟩
    refine ⟨_, rfl, st, _, dx, _, _, rfl, S.st, W.C_Store, W.na_Store__places, rfl, ?_⟩
    refine ⟨_, rfl, Or.inr ⟨_, by rw [← hp]; exact DGet.k (k := Sum.inl n) S.pl, ?_⟩⟩
    exact Or.inl ⟨_, _, _, rfl, Or.inl (SqL.of S.wl), atI_nat (j := p + 1) (int_at hz), k⟩
def sp_kind : Addr → Sp := fun C vs H Q _ => ∃ st dx wl pl room entries least ws kvs n, ∃ (p : Nat) (z : Int), vs = [.ref st, .int n] ∧ StoreAt H C st dx wl pl room entries least ws kvs ∧ valV kvs (.inl n) = some (.int (p : Int)) ∧ ws[p + 2]? = some z ∧ Q (.int z) H
theorem ok_Store_kind (W : WT P K mg base) : FnOk P w K mg base CX0 1 W.f_Store_kind W.fd_Store_kind ["self", "number"] (sp_kind W.c_Store) := by
  refine W.F_Store_kind.ok sc_Store_kind (fun vs H Q E h => ?_) (fun cdv A outer s H vs Q E hr h => ?_)
  · obtain ⟨st, dx, wl, pl, room, entries, least, ws, kvs, n, p, z, rfl, _⟩ := h
    rfl
  · obtain ⟨st, dx, wl, pl, room, entries, least, ws, kvs, n, p, z, rfl, S, hp, hz, k⟩ := h
    have hu1 := hu_of hr
    have hu64 := hu64_of hr
    refine ⟨_, (pss_one (ps_ret (pe_ix (ix_U hu1) (pe_fld (pv 0) rfl) (pe_op op_addU (pe_ix (ix_U hu1) (pe_fld (pv 0) rfl) (pv 1) (fun _ _ => rfl)) pe_int) (fun _ _ => rfl)))), ?_⟩
    refine ⟨_, rfl, st, _, dx, _, _, rfl, S.st, W.C_Store, W.na_Store_words, rfl, ?_⟩
    refine ⟨_, rfl, st, _, dx, _, _, rfl, S.st, W.C_Store, W.na_Store__places, rfl, ?_⟩
    refine ⟨_, rfl, Or.inr ⟨_, by rw [← hp]; exact DGet.k (k := Sum.inl n) S.pl, ?_⟩⟩
    exact Or.inl ⟨_, _, _, rfl, Or.inl (SqL.of S.wl), atI_nat (j := p + 2) (int_at hz), k⟩
theorem set_int (ws : List Int) (i : Nat) (x : Int) : (ws.map V.int).set i (.int x) = (ws.set i x).map V.int := by rw [List.map_set]
def sp_put : Addr → Sp := fun C vs H Q _ => ∃ st dx wl pl room entries least ws kvs n, ∃ (p a : Nat) (x : Int), vs = [.ref st, .int n, .int (a : Int), .int x] ∧ StoreAt H C st dx wl pl room entries least ws kvs ∧ valV kvs (.inl n) = some (.int (p : Int)) ∧ p + 3 + a < ws.length ∧ Q .non (upd H wl (.lst ((ws.set (p + 3 + a) x).map V.int)))
theorem ok_Store_put (W : WT P K mg base) : FnOk P w K mg base CX0 1 W.f_Store_put W.fd_Store_put ["self", "number", "at", "word"] (sp_put W.c_Store) := by
  refine W.F_Store_put.ok sc_Store_put (fun vs H Q E h => ?_) (fun cdv A outer s H vs Q E hr h => ?_)
  · obtain ⟨st, dx, wl, pl, room, entries, least, ws, kvs, n, p, a, z, rfl, _⟩ := h
    rfl
  · obtain ⟨st, dx, wl, pl, room, entries, least, ws, kvs, n, p, a, z, rfl, S, hp, hz, k⟩ := h
    have hu1 := hu_of hr
    have hu64 := hu64_of hr
    refine ⟨_, (pss_one (ps_asg (pv 3) (pg_sub (pe_fld (pv 0) rfl) (pe_op op_addU (pe_op op_addU (pe_ix (ix_U hu1) (pe_fld (pv 0) rfl) (pv 1) (fun _ _ => rfl)) (pe_gi rfl W.g_HEADER)) (pv 2)) set_list))), ?_⟩
    refine ⟨_, rfl, ?_⟩
    refine ⟨_, rfl, st, _, dx, _, _, rfl, S.st, W.C_Store, W.na_Store_words, rfl, ?_⟩
    refine ⟨_, rfl, st, _, dx, _, _, rfl, S.st, W.C_Store, W.na_Store__places, rfl, ?_⟩
    refine ⟨_, rfl, Or.inr ⟨_, by rw [← hp]; exact DGet.k (k := Sum.inl n) S.pl, ?_⟩⟩
    refine ⟨_, rfl, ?_⟩
    refine ⟨wl, _, _, p + 3 + a, rfl, rfl, S.wl, ixN_nat (i := p + 3 + a) (by rw [List.length_map]; exact hz), ?_⟩
    rw [set_int]
    exact k
def seg (ws : List Int) (p n : Nat) : List Int := (ws.drop p).take n
theorem cut_seg {ws : List Int} {p n : Nat} (h : p + n ≤ ws.length) : cutV (ws.map V.int) (some (p : Int)) (some ((p : Int) + (n : Int))) = (seg ws p n).map V.int := by
  unfold cutV seg
  have h1 : HT.sIx (ws.map V.int).length 0 (some (p : Int)) = p := by rw [HT.sIx_nat, List.length_map]; omega
  have h2 : HT.sIx (ws.map V.int).length (ws.map V.int).length (some ((p : Int) + (n : Int))) = p + n := by
    have := HT.sIx_nat (ws.map V.int).length (ws.map V.int).length (p + n)
    rw [show ((p + n : Nat) : Int) = (p : Int) + (n : Int) by omega] at this
    rw [this, List.length_map]
    omega
  rw [h1, h2, List.map_take, List.map_drop, show p + n - p = n by omega]
def sp_get : Addr → Sp := fun C vs H Q _ => ∃ st dx wl pl room entries least ws kvs n, ∃ (p a : Nat) (z : Int), vs = [.ref st, .int n, .int (a : Int)] ∧ StoreAt H C st dx wl pl room entries least ws kvs ∧ valV kvs (.inl n) = some (.int (p : Int)) ∧ ws[p + 3 + a]? = some z ∧ Q (.int z) H
theorem ok_Store_get (W : WT P K mg base) : FnOk P w K mg base CX0 1 W.f_Store_get W.fd_Store_get ["self", "number", "at"] (sp_get W.c_Store) := by
  refine W.F_Store_get.ok sc_Store_get (fun vs H Q E h => ?_) (fun cdv A outer s H vs Q E hr h => ?_)
  · obtain ⟨st, dx, wl, pl, room, entries, least, ws, kvs, n, p, a, z, rfl, _⟩ := h
    rfl
  · obtain ⟨st, dx, wl, pl, room, entries, least, ws, kvs, n, p, a, z, rfl, S, hp, hz, k⟩ := h
    have hu1 := hu_of hr
    have hu64 := hu64_of hr
    refine ⟨_, (pss_one (ps_ret (pe_ix (ix_U hu1) (pe_fld (pv 0) rfl) (pe_op op_addU (pe_op op_addU (pe_ix (ix_U hu1) (pe_fld (pv 0) rfl) (pv 1) (fun _ _ => rfl)) (pe_gi rfl W.g_HEADER)) (pv 2)) (fun _ _ => rfl)))), ?_⟩
    refine ⟨_, rfl, st, _, dx, _, _, rfl, S.st, W.C_Store, W.na_Store_words, rfl, ?_⟩
    refine ⟨_, rfl, st, _, dx, _, _, rfl, S.st, W.C_Store, W.na_Store__places, rfl, ?_⟩
    refine ⟨_, rfl, Or.inr ⟨_, by rw [← hp]; exact DGet.k (k := Sum.inl n) S.pl, ?_⟩⟩
    refine ⟨_, rfl, ?_⟩
    exact Or.inl ⟨_, _, _, rfl, Or.inl (SqL.of S.wl), atI_nat (j := p + 3 + a) (int_at hz), k⟩
def sp_slots : Addr → Sp := fun C vs H Q _ => ∃ st dx wl pl room entries least ws kvs n, ∃ (p z : Nat), vs = [.ref st, .int n] ∧ StoreAt H C st dx wl pl room entries least ws kvs ∧ valV kvs (.inl n) = some (.int (p : Int)) ∧ ws[p + 1]? = some (z : Int) ∧ p + 3 + z ≤ ws.length ∧
  ∀ q, H q = none → Q (.ref q) (upd H q (.lst ((seg ws (p + 3) z).map V.int)))
theorem ok_Store_slots (W : WT P K mg base) : FnOk P w K mg base CX0 2 W.f_Store_slots W.fd_Store_slots ["self", "number"] (sp_slots W.c_Store) := by
  refine W.F_Store_slots.ok sc_Store_slots (fun vs H Q E h => ?_) (fun cdv A outer s H vs Q E hr h => ?_)
  · obtain ⟨st, dx, wl, pl, room, entries, least, ws, kvs, n, p, z, rfl, _⟩ := h
    rfl
  · obtain ⟨st, dx, wl, pl, room, entries, least, ws, kvs, n, p, z, rfl, S, hp, hz, hl, k⟩ := h
    have hu1 := hu_of hr
    have hu64 := hu64_of hr
    refine ⟨_, (pss_cons (ps_set (i := 2) sc_Store_slots.nd rfl (by first | exact Or.inl rfl | exact Or.inr rfl) (pe_op op_addU (pe_ix (ix_U hu1) (pe_fld (pv 0) rfl) (pv 1) (fun _ _ => rfl)) (pe_gi rfl W.g_HEADER)))
      (pss_one (ps_ret (pe_slice sl_U (pe_fld (pv 0) rfl) (po_some (pv 2)) (po_some (pe_op op_addU (pv 2) (pe_meth (pv 0) W.C_Store W.m_Store_size (ok_Store_size W) (hr.mono (by decide)) W.b_Store_size .nil pass0 (pa_cons (pv 1) pa_nil)))))))), ?_⟩
    refine ⟨_, rfl, st, _, dx, _, _, rfl, S.st, W.C_Store, W.na_Store__places, rfl, ?_⟩
    refine ⟨_, rfl, Or.inr ⟨_, by rw [← hp]; exact DGet.k (k := Sum.inl n) S.pl, ?_⟩⟩
    refine ⟨_, rfl, st, _, dx, _, _, rfl, S.st, W.C_Store, W.na_Store_words, rfl, ?_⟩
    refine ⟨_, rfl, _, rfl, ?_⟩
    refine ⟨_, rfl, ?_⟩
    refine ⟨_, rfl, st, dx, _, rfl, S.st, rfl, ?_⟩
    refine ⟨_, rfl, ?_⟩
    refine ⟨st, dx, wl, pl, room, entries, least, ws, kvs, n, p, z, rfl, S, hp, hz, ?_⟩
    refine ⟨_, rfl, ?_⟩
    refine Or.inl ⟨wl, _, rfl, SqL.of S.wl, fun q hq => ?_⟩
    have e : cutV (ws.map V.int) (some ((p : Int) + 3)) (some ((p : Int) + 3 + (z : Int))) = (seg ws (p + 3) z).map V.int := cut_seg (p := p + 3) hl
    rw [e]
    exact k q hq
def sp_numbers : Addr → Sp := fun C vs H Q _ => ∃ st dx wl pl room entries least ws kvs, ∃ ns : List Int, vs = [.ref st] ∧ StoreAt H C st dx wl pl room entries least ws kvs ∧ kvs.map (·.1) = ns.map Sum.inl ∧
  ∀ (ns' : List Int) (p : Addr), ns'.Perm ns → ns'.Pairwise (· ≤ ·) → H p = none → Q (.ref p) (upd H p (.lst (ns'.map V.int)))
theorem ok_Store_numbers (W : WT P K mg base) : FnOk P w K mg base CX0 1 W.f_Store_numbers W.fd_Store_numbers ["self"] (sp_numbers W.c_Store) := by
  refine W.F_Store_numbers.ok sc_Store_numbers (fun vs H Q E h => ?_) (fun cdv A outer s H vs Q E hr h => ?_)
  · obtain ⟨st, dx, wl, pl, room, entries, least, ws, kvs, ns, rfl, _⟩ := h
    rfl
  · obtain ⟨st, dx, wl, pl, room, entries, least, ws, kvs, ns, rfl, S, hk, k⟩ := h
    have hu1 := hu_of hr
    have hu64 := hu64_of hr
    refine ⟨_, (pss_one (ps_ret (pe_callB (call_sortedU rfl) (by rfl) W.n_sorted bb_sorted (pa_cons (pe_fld (pv 0) rfl) pa_nil)))), ?_⟩
    refine ⟨_, rfl, st, _, dx, _, _, rfl, S.st, W.C_Store, W.na_Store__places, rfl, ?_⟩
    exact ⟨_, _, rfl, Or.inr ⟨kvs, Rd.of S.pl, hk⟩, k⟩
def sp_drop : Addr → Sp := fun C vs H Q _ => ∃ st dx wl pl room entries least ws kvs n, vs = [.ref st, .int n] ∧ StoreAt H C st dx wl pl room entries least ws kvs ∧ (valV kvs (.inl n)).isSome = true ∧
  ∀ H', StoreAt H' C st dx wl pl room entries (if n < least then n else least) ws (dropK kvs (.inl n)) → (∀ b, b ≠ st → b ≠ pl → H' b = H b) → Q .non H'
theorem ok_Store_drop (W : WT P K mg base) : FnOk P w K mg base CX0 1 W.f_Store_drop W.fd_Store_drop ["self", "number"] (sp_drop W.c_Store) := by
  refine W.F_Store_drop.ok sc_Store_drop (fun vs H Q E h => ?_) (fun cdv A outer s H vs Q E hr h => ?_)
  · obtain ⟨st, dx, wl, pl, room, entries, least, ws, kvs, ns, rfl, _⟩ := h
    rfl
  · obtain ⟨st, dx, wl, pl, room, entries, least, ws, kvs, n, rfl, S, hk, k⟩ := h
    have hu1 := hu_of hr
    have hu64 := hu64_of hr
    have n1 : st ≠ pl := ne_of S.st S.pl (by intro z; cases z)
    have n2 : wl ≠ pl := ne_of S.wl S.pl (by intro z; cases z)
    have n3 : st ≠ wl := ne_of S.st S.wl (by intro z; cases z)
    refine ⟨_, (pss_cons (ps_ddel (pe_fld (pv 0) rfl) (pv 1))
      (pss_one (ps_fld (pv 0) (pe_callB (call_min2 rfl) (by rfl) W.n_min bb_min (pa_cons (pe_fld (pv 0) rfl) (pa_cons (pv 1) pa_nil))) rfl))), ?_⟩
    refine ⟨_, rfl, st, _, dx, _, _, rfl, S.st, W.C_Store, W.na_Store__places, rfl, ?_⟩
    refine ⟨_, rfl, pl, _, .inl n, rfl, S.pl, rfl, hk, ?_⟩
    have h2 : upd H pl (.dK (dropK kvs (.inl n))) st = some (.ins W.c_Store dx (sF room entries wl pl least)) := by rw [upd_ne n1]; exact S.st
    refine ⟨_, rfl, st, _, dx, _, _, rfl, h2, W.C_Store, W.na_Store__least, rfl, ?_⟩
    refine ⟨_, rfl, _, _, rfl, ?_⟩
    refine ⟨_, rfl, st, _, dx, _, rfl, h2, W.C_Store, W.na_Store__least, (by show 5 < 1000; decide), ?_⟩
    refine k _ ⟨upd_same, ?_, ?_⟩ (fun b b1 b2 => ?_)
    · rw [upd_ne n3.symm, upd_ne n2]; exact S.wl
    · rw [upd_ne n1.symm]; exact upd_same
    · rw [upd_ne b1, upd_ne b2]
def sp_exchange : Addr → Sp := fun C vs H Q _ => ∃ st dx wl pl room entries least ws kvs m n, ∃ (p q : Nat), vs = [.ref st, .int m, .int n] ∧ StoreAt H C st dx wl pl room entries least ws kvs ∧ valV kvs (.inl m) = some (.int (p : Int)) ∧ valV kvs (.inl n) = some (.int (q : Int)) ∧ p < ws.length ∧ q < ws.length ∧ kvs.length + 1 < sizeLine ∧
  ∀ H', StoreAt H' C st dx wl pl room entries least ((ws.set p n).set q m) (putK (putK kvs (.inl m) (.int (q : Int))) (.inl n) (.int (p : Int))) → (∀ b, b ≠ wl → b ≠ pl → H' b = H b) → Q .non H'
theorem ok_Store_exchange (W : WT P K mg base) : FnOk P w K mg base CX0 1 W.f_Store_exchange W.fd_Store_exchange ["self", "first", "second"] (sp_exchange W.c_Store) := by
  refine W.F_Store_exchange.ok sc_Store_exchange (fun vs H Q E h => ?_) (fun cdv A outer s H vs Q E hr h => ?_)
  · obtain ⟨st, dx, wl, pl, room, entries, least, ws, kvs, m, n, p, q, rfl, _⟩ := h
    rfl
  · obtain ⟨st, dx, wl, pl, room, entries, least, ws, kvs, m, n, p, q, rfl, S, hm, hn, hp, hq, hl, k⟩ := h
    have hu1 := hu_of hr
    have hu64 := hu64_of hr
    have n1 : st ≠ pl := ne_of S.st S.pl (by intro z; cases z)
    have n2 : wl ≠ pl := ne_of S.wl S.pl (by intro z; cases z)
    have n3 : st ≠ wl := ne_of S.st S.wl (by intro z; cases z)
    refine ⟨_, (pss_cons (ps_set (i := 3) sc_Store_exchange.nd rfl (by first | exact Or.inl rfl | exact Or.inr rfl) (pe_ix (ix_U hu1) (pe_fld (pv 0) rfl) (pv 1) (fun _ _ => rfl)))
      (pss_cons (ps_set (i := 4) sc_Store_exchange.nd rfl (by first | exact Or.inl rfl | exact Or.inr rfl) (pe_ix (ix_U hu1) (pe_fld (pv 0) rfl) (pv 2) (fun _ _ => rfl)))
      (pss_cons (ps_dput hu1 (pe_fld (pv 0) rfl) (pv 1) (pv 4) rfl)
      (pss_cons (ps_dput hu1 (pe_fld (pv 0) rfl) (pv 2) (pv 3) rfl)
      (pss_cons (ps_asg (pv 2) (pg_sub (pe_fld (pv 0) rfl) (pv 3) set_list))
      (pss_one (ps_asg (pv 1) (pg_sub (pe_fld (pv 0) rfl) (pv 4) set_list)))))))), ?_⟩
    refine ⟨_, rfl, st, _, dx, _, _, rfl, S.st, W.C_Store, W.na_Store__places, rfl, ?_⟩
    refine ⟨_, rfl, Or.inr ⟨_, by rw [← hm]; exact DGet.k (k := Sum.inl m) S.pl, ?_⟩⟩
    refine ⟨_, rfl, st, _, dx, _, _, rfl, S.st, W.C_Store, W.na_Store__places, rfl, ?_⟩
    refine ⟨_, rfl, Or.inr ⟨_, by rw [← hn]; exact DGet.k (k := Sum.inl n) S.pl, ?_⟩⟩
    refine ⟨_, rfl, _, rfl, st, _, dx, _, _, rfl, S.st, W.C_Store, W.na_Store__places, rfl, ?_⟩
    refine ⟨_, rfl, pl, _, rfl, DPut.k (k := Sum.inl m) S.pl (by omega), ?_⟩
    generalize e1 : upd H pl (.dK (putK kvs (Sum.inl m) (.int (q : Int)))) = H1
    have s1 : H1 st = some (.ins W.c_Store dx (sF room entries wl pl least)) := by rw [← e1, upd_ne n1]; exact S.st
    have p1 : H1 pl = some (.dK (putK kvs (Sum.inl m) (.int (q : Int)))) := by rw [← e1]; exact upd_same
    refine ⟨_, rfl, _, rfl, st, _, dx, _, _, rfl, s1, W.C_Store, W.na_Store__places, rfl, ?_⟩
    refine ⟨_, rfl, pl, _, rfl, DPut.k (k := Sum.inl n) p1 (by have := length_putK kvs (Sum.inl m) (.int (q : Int)); omega), ?_⟩
    generalize e2 : upd H1 pl (.dK (putK (putK kvs (Sum.inl m) (.int (q : Int))) (Sum.inl n) (.int (p : Int)))) = H2
    have s2 : H2 st = some (.ins W.c_Store dx (sF room entries wl pl least)) := by rw [← e2, upd_ne n1]; exact s1
    have w2 : H2 wl = some (.lst (ws.map V.int)) := by rw [← e2, upd_ne n2, ← e1, upd_ne n2]; exact S.wl
    have p2 : H2 pl = some (.dK (putK (putK kvs (Sum.inl m) (.int (q : Int))) (Sum.inl n) (.int (p : Int)))) := by rw [← e2]; exact upd_same
    refine ⟨_, rfl, _, rfl, st, _, dx, _, _, rfl, s2, W.C_Store, W.na_Store_words, rfl, ?_⟩
    refine ⟨_, rfl, wl, _, _, p, rfl, rfl, w2, ixN_nat (i := p) (by rw [List.length_map]; exact hp), ?_⟩
    rw [set_int]
    generalize e3 : upd H2 wl (.lst ((ws.set p n).map V.int)) = H3
    have s3 : H3 st = some (.ins W.c_Store dx (sF room entries wl pl least)) := by rw [← e3, upd_ne n3]; exact s2
    have w3 : H3 wl = some (.lst ((ws.set p n).map V.int)) := by rw [← e3]; exact upd_same
    refine ⟨_, rfl, _, rfl, st, _, dx, _, _, rfl, s3, W.C_Store, W.na_Store_words, rfl, ?_⟩
    refine ⟨_, rfl, wl, _, _, q, rfl, rfl, w3, ixN_nat (i := q) (by rw [List.length_map, List.length_set]; exact hq), ?_⟩
    rw [set_int]
    refine k _ ⟨?_, upd_same, ?_⟩ (fun b b1 b2 => ?_)
    · rw [upd_ne n3]; exact s3
    · rw [upd_ne n2.symm, ← e3, upd_ne n2.symm]; exact p2
    · rw [upd_ne b1, ← e3, upd_ne b1, ← e2, upd_ne b2, ← e1, upd_ne b2]
def sp_init : Addr → Sp := fun C vs H Q _ => ∃ st dx room entries, vs = [.ref st, .int room, .int entries] ∧ H st = some (.ins C dx []) ∧
  ∀ H' wl pl, StoreAt H' C st dx wl pl room entries 0 [] [] → (∀ b o, H b = some o → b ≠ st → H' b = some o) → H wl = none → H pl = none → Q .non H'
theorem ok_Store___init__ (W : WT P K mg base) : FnOk P w K mg base CX0 1 W.f_Store___init__ W.fd_Store___init__ ["self", "room", "entries"] (sp_init W.c_Store) := by
  refine W.F_Store___init__.ok sc_Store___init__ (fun vs H Q E h => ?_) (fun cdv A outer s H vs Q E hr h => ?_)
  · obtain ⟨st, dx, room, entries, rfl, _⟩ := h
    rfl
  · obtain ⟨st, dx, room, entries, rfl, S, k⟩ := h
    have hu1 := hu_of hr
    have hu64 := hu64_of hr
    refine ⟨_, (pss_cons (ps_fld (pv 0) (pv 1) rfl)
      (pss_cons (ps_fld (pv 0) (pv 2) rfl)
      (pss_cons (ps_fld (pv 0) (pe_lst pa_nil) rfl)
      (pss_cons (ps_fld (pv 0) pe_dnewK rfl)
      (pss_one (ps_fld (pv 0) pe_int rfl)))))), ?_⟩
    refine ⟨_, rfl, _, rfl, st, _, dx, _, rfl, S, W.C_Store, W.na_Store_room, (by decide), ?_⟩
    refine ⟨_, rfl, _, rfl, st, _, dx, _, rfl, upd_same, W.C_Store, W.na_Store_entries, (by show 1 < 1000; decide), ?_⟩
    rw [upd_upd]
    generalize e1 : upd H st (.ins W.c_Store dx (putF "entries" (.int entries) (putF "room" (.int room) []))) = H1
    have s1 : H1 st = some (.ins W.c_Store dx [("room", .int room), ("entries", .int entries)]) := by rw [← e1]; exact upd_same
    refine ⟨(by show 0 ≤ sizeLine; decide), fun wl hw => ?_⟩
    have nw : st ≠ wl := ne_of_none s1 hw
    have s2 : upd H1 wl (.lst []) st = some (.ins W.c_Store dx [("room", .int room), ("entries", .int entries)]) := by rw [upd_ne nw]; exact s1
    refine ⟨_, rfl, st, _, dx, _, rfl, s2, W.C_Store, W.na_Store_words, (by show 2 < 1000; decide), ?_⟩
    intro pl hp
    have np : st ≠ pl := ne_of_none upd_same hp
    have npw : wl ≠ pl := fun z => by subst z; rw [upd_ne nw.symm, upd_same] at hp; cases hp
    refine ⟨_, rfl, st, _, dx, _, rfl, (by rw [upd_ne np]; exact upd_same), W.C_Store, W.na_Store__places, (by show 3 < 1000; decide), ?_⟩
    refine ⟨_, rfl, st, _, dx, _, rfl, upd_same, W.C_Store, W.na_Store__least, (by show 4 < 1000; decide), ?_⟩
    rw [upd_upd]
    have hw0 : H wl = none := by rw [← e1, upd_ne nw.symm] at hw; exact hw
    have hp0 : H pl = none := by rw [upd_ne np.symm, upd_ne npw.symm, ← e1, upd_ne np.symm] at hp; exact hp
    refine k _ wl pl ⟨upd_same, ?_, ?_⟩ (fun b o e nb => ?_) hw0 hp0
    · rw [upd_ne nw.symm, upd_ne npw, upd_ne nw.symm]; exact upd_same
    · rw [upd_ne np.symm]; exact upd_same
    · rw [upd_ne nb, upd_ne (ne_of_none e hp0), upd_ne nb, upd_ne (ne_of_none e hw0), ← e1, upd_ne nb]; exact e
end

end LX
namespace LX
open PySem PySem.Spec PyProof.Rows L2 NdefX
section
variable {P : Program} {w : World} {K : PySem.W.Frag} {mg : Str → Option Value} {base : Heap}
def sp_number : Sp := fun vs H Q _ => ∃ c k : Int, vs = [.int c, .int k] ∧ 0 ≤ k ∧ k ≤ 100000 ∧ ∀ r : Int, 0 ≤ r → Q (.int r) H
theorem ok__law_number (W : WT P K mg base) : FnOk P w K mg base CX0 1 W.f__law_number W.fd__law_number ["_law_cell", "_law_k"] sp_number := by
  refine W.F__law_number.ok sc__law_number (fun vs H Q E h => ?_) (fun cdv A outer s H vs Q E hr h => ?_)
  · obtain ⟨n, m, rfl, _⟩ := h
    rfl
  · obtain ⟨c, m, rfl, hm, hm2, k⟩ := h
    have hu1 := hu_of hr
    have hu64 := hu64_of hr
    refine ⟨_, (pss_cons (ps_if (pt_cmpR op_geU (pv 0) (pe_op op_pow pe_int pe_int) (by first | exact nomark _ | rfl)) (pss_one (ps_ret (pv 0))) pss_nil)
      (pss_cons (ps_set (i := 2) sc__law_number.nd rfl (by first | exact Or.inl rfl | exact Or.inr rfl) (pe_op op_mod (pe_callTy call_intU (by rfl) W.n_int bb_int (pa_cons (pe_op op_addU (pe_op op_addU (pe_op op_mulU (pv 0) pe_int) (pe_op op_mulU (pv 1) pe_int)) pe_int) pa_nil)) pe_int))
      (pss_one (ps_ret (pe_op op_mod (pe_callTy call_intU (by rfl) W.n_int bb_int (pa_cons (pe_op op_addU (pe_op op_mulU (pv 2) (pv 2)) (pe_op op_mulU (pv 1) pe_int)) pa_nil)) pe_int))))), ?_⟩
    refine ⟨_, rfl, _, _, rfl, rfl, ⟨by decide, by decide, by decide⟩, _, rfl, ?_⟩
    refine iteD (fun h => ?_) (fun h => ?_)
    · refine ⟨_, rfl, k _ ?_⟩
      have h : (10 : Int) ^ 18 ≤ c := h
      omega
    · refine ⟨_, rfl, Or.inr ⟨by decide, by decide⟩, ?_⟩
      refine ⟨_, rfl, Or.inr ⟨by decide, by decide⟩, ?_⟩
      refine ⟨_, _, rfl, rfl, (by show (0 : Int) < 2147483647; decide), ?_⟩
      have e1 := Int.emod_nonneg (c * 48271 + m * 69621 + 11) (by decide : (2147483647 : Int) ≠ 0)
      have e2 := Int.emod_lt_of_pos (c * 48271 + m * 69621 + 11) (by decide : (0 : Int) < 2147483647)
      generalize (c * 48271 + m * 69621 + 11) % 2147483647 = d at e1 e2 ⊢
      refine ⟨_, rfl, _, rfl, Or.inl ⟨by omega, by omega⟩, ?_⟩
      refine ⟨_, rfl, Or.inr ⟨by decide, by decide⟩, ?_⟩
      refine ⟨_, _, rfl, rfl, (by show (0 : Int) < 2147483399; decide), ?_⟩
      exact k _ (Int.emod_nonneg _ (by decide))
theorem divc (j : Int) (h0 : 0 < j) (h : j ≤ 100000000) : CDivW 0 j := ⟨h0, by
  have : j.natAbs.log2 ≤ j.natAbs := Nat.log2_le_self _
  have e : j.natAbs ≤ 100000000 := by omega
  have : j.natAbs.log2 < 27 := by
    by_cases z : j.natAbs = 0
    · omega
    · exact (Nat.log2_lt z).mpr (by omega)
  omega⟩
theorem divx {i j : Int} (h : CDivW 0 j) : CDivW i j := h
def sp_is : Sp := fun vs H Q _ => ∃ a b : Int, vs = [.int a, .int b] ∧ Q (.bl (decide (a = b))) H
theorem ok__law_is (W : WT P K mg base) : FnOk P w K mg base CX0 1 W.f__law_is W.fd__law_is ["_law_actual", "_law_due"] sp_is := by
  refine W.F__law_is.ok sc__law_is (fun vs H Q E h => ?_) (fun cdv A outer s H vs Q E hr h => ?_)
  · obtain ⟨n, m, rfl, _⟩ := h
    rfl
  · obtain ⟨a, b, rfl, k⟩ := h
    have hu1 := hu_of hr
    have hu64 := hu64_of hr
    refine ⟨_, (pss_one (ps_ret (pe_and (pe_callB call_isi (by rfl) W.n_isinstance bb_isinstance (pa_cons (pv 0) (pa_cons (pe_bt rfl W.n_int bb_int) pa_nil))) (pe_and (pe_notT (pe_callB call_isi (by rfl) W.n_isinstance bb_isinstance (pa_cons (pv 0) (pa_cons (pe_bt rfl W.n_bool bb_bool) pa_nil)))) (pe_one (pe_cmpR (op_eqU hu64) (pv 0) (pv 1) (by first | exact nomark _ | rfl))))))), ?_⟩
    refine ⟨_, rfl, ?_⟩
    refine ⟨_, _, _, _, _, rfl, ClsV.ty _, TyX.base (TyOf.int _), kt_int_int, ?_⟩
    refine ⟨_, rfl, ?_⟩
    refine iteT ?_
    refine ⟨_, rfl, ?_⟩
    refine ⟨_, _, _, _, _, rfl, ClsV.ty _, TyX.base (TyOf.int _), kt_int_bool, ?_⟩
    refine ⟨_, rfl, _, rfl, iteT ?_⟩
    refine ⟨_, rfl, _, rfl, rfl, ?_⟩
    show Q (.bl (decide (V.int a = V.int b))) H
    rw [I_dec]
    exact k
/-- every old thing outside of F is kept -/
def Fr (F : List Addr) (H H' : Hp) : Prop := ∀ b o, H b = some o → b ∉ F → H' b = some o
theorem Fr.rfl' {F : List Addr} {H : Hp} : Fr F H H := fun _ _ e _ => e
theorem Fr.trans {F : List Addr} {H H1 H2 : Hp} (a : Fr F H H1) (b : Fr F H1 H2) : Fr F H H2 := fun c o e n => b c o (a c o e n) n
theorem Fr.new {F : List Addr} {H : Hp} {q : Addr} {o : HO} (hq : H q = none) : Fr F H (upd H q o) := fun c u e _ => by rw [upd_ne (ne_of_none e hq)]; exact e
theorem Fr.at {F : List Addr} {H : Hp} {q : Addr} {o : HO} (hq : q ∈ F) : Fr F H (upd H q o) := fun c u e n => by rw [upd_ne (fun z => n (by rw [z]; exact hq))]; exact e
theorem Fr.mono {F G : List Addr} {H H' : Hp} (a : Fr F H H') (h : ∀ b, b ∈ F → b ∈ G) : Fr G H H' := fun c o e n => a c o e fun m => n (h c m)
def IsI (H : Hp) (a : Addr) (ns : List Int) : Prop := H a = some (.lst (ns.map V.int))
def sp_same : Sp := fun vs H Q _ => ∃ a b ns, vs = [.ref a, .ref b] ∧ IsI H a ns ∧ IsI H b ns ∧ ns.length ≤ 100000 ∧ Q (.bl true) H
theorem ok__law_same (W : WT P K mg base) : FnOk P w K mg base CX0 2 W.f__law_same W.fd__law_same ["_law_actual", "_law_due"] sp_same := by
  refine W.F__law_same.ok sc__law_same (fun vs H Q E h => ?_) (fun cdv A outer s H vs Q E hr h => ?_)
  · obtain ⟨n, m, ns, rfl, _⟩ := h
    rfl
  · obtain ⟨a, b, ns, rfl, ha, hb, hl, k⟩ := h
    have hu1 := hu_of hr
    have hu64 := hu64_of hr
    refine ⟨_, (pss_cons (ps_if (PW.pt (pw_or (pt_not (pt_truth (pe_callB call_isi (by rfl) W.n_isinstance bb_isinstance (pa_cons (pv 0) (pa_cons (pe_bt rfl W.n_list bb_list) pa_nil))) (by intro _; rfl))) (pw_or1 (pt_cmpR (op_neU hu64) (pe_callB call_lenU (by rfl) W.n_len bb_len (pa_cons (pv 0) pa_nil)) (pe_callB call_lenU (by rfl) W.n_len bb_len (pa_cons (pv 1) pa_nil)) (by first | exact nomark _ | rfl))))) (pss_one (ps_ret pe_bl)) pss_nil)
      (pss_cons (ps_for PassesOwn.never rfl (pi_range1 (by rfl) W.n_range (pa_cons (pe_callB call_lenU (by rfl) W.n_len bb_len (pa_cons (pv 1) pa_nil)) pa_nil)) (pg_name (i := 2) sc__law_same.nd rfl (by first | exact Or.inl rfl | exact Or.inr rfl)) (pss_one (ps_if (pt_not (pt_truth (pe_call (ok__law_is W) (hr.mono (by decide)) rfl W.g__law_is W.F__law_is.kp W.b__law_is .nil pass0 (pa_cons (pe_ix (ix_U hu1) (pv 0) (pv 2) (fun _ _ => rfl)) (pa_cons (pe_ix (ix_U hu1) (pv 1) (pv 2) (fun _ _ => rfl)) pa_nil))) (by intro _; rfl))) (pss_one (ps_ret pe_bl)) pss_nil)))
      (pss_one (ps_ret pe_bl)))), ?_⟩
    refine ⟨_, rfl, ?_⟩
    refine ⟨_, _, _, _, _, rfl, ClsV.ty _, TyX.base (TyOf.lst ha), kt_list_list, ?_⟩
    refine ⟨_, rfl, iteF ?_⟩
    refine ⟨_, rfl, Or.inl ⟨_, Or.inl (SqL.of ha), ?_⟩⟩
    refine ⟨_, rfl, Or.inl ⟨_, Or.inl (SqL.of hb), ?_⟩⟩
    refine ⟨rfl, _, rfl, ?_⟩
    refine iteND (fun h => absurd rfl h) (fun _ => ?_)
    refine ⟨_, rfl, Or.inl ⟨_, Or.inl (SqL.of hb), ?_⟩⟩
    rw [List.length_map]
    refine ⟨_, rfl, by omega, by omega, for_range (lo := 0) (n := ns.length) (fun _ σ H' => (∃ v, σ = [some (.ref a), some (.ref b), v]) ∧ H' = H) ⟨⟨_, rfl⟩, rfl⟩ (fun i σ H' hi hI => ?_) (fun σ H' hI => ?_)⟩
    · obtain ⟨⟨v, rfl⟩, rfl⟩ := hI
      have hx := int_at (List.getElem?_eq_getElem hi)
      refine ⟨_, rfl, _, rfl, Or.inl ⟨_, _, _, rfl, Or.inl (SqL.of ha), by rw [Int.zero_add]; exact atI_nat hx, ?_⟩⟩
      refine ⟨_, rfl, _, rfl, Or.inl ⟨_, _, _, rfl, Or.inl (SqL.of hb), by rw [Int.zero_add]; exact atI_nat hx, ?_⟩⟩
      refine ⟨_, _, rfl, ?_⟩
      refine ⟨_, rfl, ?_⟩
      refine iteND (fun h => absurd rfl h) (fun _ => ?_)
      exact ⟨⟨_, rfl⟩, rfl⟩
    · obtain ⟨_, rfl⟩ := hI
      exact k
def sp_word1 : Sp := fun vs H Q _ => ∃ x : Int, vs = [.int x] ∧ ∀ r : Int, Q (.int r) H
theorem ok__law_word (W : WT P K mg base) : FnOk P w K mg base CX0 1 W.f__law_word W.fd__law_word ["_law_x"] sp_word1 := by
  refine W.F__law_word.ok sc__law_word (fun vs H Q E h => ?_) (fun cdv A outer s H vs Q E hr h => ?_)
  · obtain ⟨n, rfl, _⟩ := h
    rfl
  · obtain ⟨x, rfl, k⟩ := h
    have hu1 := hu_of hr
    have hu64 := hu64_of hr
    refine ⟨_, (pss_cons (ps_set (i := 1) sc__law_word.nd rfl (by first | exact Or.inl rfl | exact Or.inr rfl) (pe_op op_mulU (pe_op op_fdivW (pv 0) pe_int) pe_int))
      (pss_cons (ps_if (pt_cmpR (op_eqU hu64) (pe_op op_mod (pe_callTy call_intU (by rfl) W.n_int bb_int (pa_cons (pv 0) pa_nil)) pe_int) pe_int (by first | exact nomark _ | rfl)) (pss_one (ps_ret (pe_op op_addU (pe_op op_mulU pe_int (pe_op op_sub (pe_op op_mod (pe_callTy call_intU (by rfl) W.n_int bb_int (pa_cons (pv 1) pa_nil)) pe_int) pe_int)) pe_int))) pss_nil)
      (pss_cons (ps_if (pt_cmpR (op_eqU hu64) (pe_op op_mod (pe_callTy call_intU (by rfl) W.n_int bb_int (pa_cons (pv 0) pa_nil)) pe_int) pe_int (by first | exact nomark _ | rfl)) (pss_one (ps_ret (pe_op op_addU (pe_op op_mulU pe_int (pe_op op_mod (pe_callTy call_intU (by rfl) W.n_int bb_int (pa_cons (pv 1) pa_nil)) pe_int)) pe_int))) pss_nil)
      (pss_one (ps_ret (pe_op op_mulU pe_int (pe_op op_mod (pe_op op_fdivW (pv 0) pe_int) pe_int))))))), ?_⟩
    refine ⟨_, rfl, _, _, rfl, rfl, ⟨by decide, by decide⟩, Or.inr ⟨by decide, by decide⟩, ?_⟩
    refine ⟨_, rfl, _, _, rfl, rfl, (by show (0 : Int) < 4; decide), rfl, _, rfl, ?_⟩
    refine iteD (fun h => ?_) (fun h => ?_)
    · refine ⟨_, rfl, _, _, rfl, rfl, (by show (0 : Int) < 536870912; decide), _, _, rfl, rfl, ?_⟩
      exact ⟨Or.inl ⟨by decide, by decide⟩, k _⟩
    · refine ⟨_, rfl, _, _, rfl, rfl, (by show (0 : Int) < 4; decide), rfl, _, rfl, ?_⟩
      refine iteD (fun h => ?_) (fun h => ?_)
      · refine ⟨_, rfl, _, _, rfl, rfl, (by show (0 : Int) < 100000; decide), ?_⟩
        exact ⟨Or.inl ⟨by decide, by decide⟩, k _⟩
      · refine ⟨_, rfl, _, _, rfl, rfl, ⟨by decide, by decide⟩, ?_⟩
        refine ⟨_, _, rfl, rfl, (by show (0 : Int) < 10; decide), ?_⟩
        exact ⟨Or.inl ⟨by decide, by decide⟩, k _⟩
end

end LX
namespace LX
open PySem PySem.Spec PyProof.Rows L2 NdefX
section
variable {P : Program} {w : World} {K : PySem.W.Frag} {mg : Str → Option Value} {base : Heap}
theorem pig {α : Type} [DecidableEq α] (f : Nat → α) (hf : ∀ i j, f i = f j → i = j) : ∀ (m : Nat) (l : List α), (∀ n, n < m → f n ∈ l) → m ≤ l.length
  | 0, _, _ => Nat.zero_le _
  | m + 1, l, h => by
    have hm := h m (Nat.lt_succ_self m)
    have := pig f hf m (l.erase (f m)) fun n hn => (List.mem_erase_of_ne (fun e => by have := hf _ _ e; omega)).mpr (h n (by omega))
    have hl := List.length_erase_of_mem hm
    have : 0 < l.length := List.length_pos_of_mem hm
    omega
theorem val_mem {κ : Type} [DecidableEq κ] {kvs : List (κ × V)} {k : κ} {v : V} (h : valV kvs k = some v) : (k, v) ∈ kvs := by
  unfold valV at h
  obtain ⟨p, hp, e⟩ := Option.map_eq_some_iff.mp h
  have h1 := List.find?_some hp
  have h2 := List.mem_of_find?_eq_some hp
  have h1 : p.1 = k := of_decide_eq_true h1
  obtain ⟨a, b⟩ := p
  subst h1 e
  exact h2
def Seen (kvs : List (Key × V)) (m : Int) : Prop := 0 ≤ m ∧ ∀ n : Int, 0 ≤ n → n < m → (valV kvs (.inl n)).isSome = true
theorem Seen.le {kvs : List (Key × V)} {m : Int} (h : Seen kvs m) : m ≤ kvs.length := by
  have := pig (α := Key) (fun n => .inl (n : Int)) (fun i j e => by have := Sum.inl.inj e; omega) m.toNat (kvs.map (·.1)) fun n hn => by
    have z := h.2 n (by omega) (by have := h.1; omega)
    obtain ⟨v, hv⟩ := Option.isSome_iff_exists.mp z
    exact List.mem_map.mpr ⟨_, val_mem hv, rfl⟩
  rw [List.length_map] at this
  have := h.1
  omega
def sp_free : Addr → Sp := fun C vs H Q _ => ∃ st dx wl pl room entries least ws kvs, vs = [.ref st] ∧ StoreAt H C st dx wl pl room entries least ws kvs ∧ Seen kvs least ∧ (kvs.length : Int) < entries ∧
  ∀ m H', StoreAt H' C st dx wl pl room entries m ws kvs → (∀ b, b ≠ st → H' b = H b) → Seen kvs m → valV kvs (.inl m) = none → Q (.int m) H'
theorem ok_Store_free_number (W : WT P K mg base) : FnOk P w K mg base CX0 1 W.f_Store_free_number W.fd_Store_free_number ["self"] (sp_free W.c_Store) := by
  refine W.F_Store_free_number.ok sc_Store_free_number (fun vs H Q E h => ?_) (fun cdv A outer s H vs Q E hr h => ?_)
  · obtain ⟨st, dx, wl, pl, room, entries, least, ws, kvs, rfl, _⟩ := h
    rfl
  · obtain ⟨st, dx, wl, pl, room, entries, least, ws, kvs, rfl, S, hs, hl, k⟩ := h
    have hu1 := hu_of hr
    have hu64 := hu64_of hr
    refine ⟨_, (pss_cons (ps_while PassesOwn.never (pt_cmpR (op_inU hu1) (pe_fld (pv 0) rfl) (pe_fld (pv 0) rfl) (by first | exact nomark _ | rfl)) (pss_one (ps_fld (pv 0) (pe_op op_addU (pe_fld (pv 0) rfl) pe_int) rfl)))
      (pss_cons (ps_if (pt_cmpR op_geU (pe_fld (pv 0) rfl) (pe_fld (pv 0) rfl) (by first | exact nomark _ | rfl)) (pss_one ps_never) pss_nil)
      (pss_one (ps_ret (pe_fld (pv 0) rfl))))), ?_⟩
    refine ⟨fun n σ H' => ∃ m : Int, σ = [some (.ref st)] ∧ StoreAt H' W.c_Store st dx wl pl room entries m ws kvs ∧ (∀ b, b ≠ st → H' b = H b) ∧ Seen kvs m ∧ n = kvs.length - m.toNat, ⟨_, least, rfl, S, fun _ _ => rfl, hs, rfl⟩, ?_⟩
    rintro n σ H' ⟨m, rfl, S1, fr, hs1, rfl⟩
    refine ⟨_, rfl, st, _, dx, _, _, rfl, S1.st, W.C_Store, W.na_Store__least, rfl, ?_⟩
    refine ⟨_, rfl, st, _, dx, _, _, rfl, S1.st, W.C_Store, W.na_Store__places, rfl, ?_⟩
    refine Or.inr ⟨_, DGet.k (k := Sum.inl m) S1.pl, ?_⟩
    refine ⟨_, rfl, ?_⟩
    cases e : valV kvs (.inl m) with
    | some v =>
      refine iteT ?_
      refine ⟨_, fun _ _ z => z, ?_⟩
      refine ⟨_, rfl, st, _, dx, _, _, rfl, S1.st, W.C_Store, W.na_Store__least, rfl, ?_⟩
      refine ⟨_, rfl, st, _, dx, _, rfl, S1.st, W.C_Store, W.na_Store__least, (by show 5 < 1000; decide), ?_⟩
      have n1 : st ≠ pl := ne_of S1.st S1.pl (by intro z; cases z)
      have n3 : st ≠ wl := ne_of S1.st S1.wl (by intro z; cases z)
      have hs2 : Seen kvs (m + 1) := ⟨by have := hs1.1; omega, fun n h0 h1 => by
        by_cases q : n = m
        · subst q; rw [e]; rfl
        · exact hs1.2 n h0 (by omega)⟩
      have l2 := hs2.le
      have l1 := hs1.1
      refine ⟨kvs.length - (m + 1).toNat, by omega, m + 1, rfl, ⟨upd_same, ?_, ?_⟩, fun b hb => ?_, hs2, rfl⟩
      · rw [upd_ne n3.symm]; exact S1.wl
      · rw [upd_ne n1.symm]; exact S1.pl
      · rw [upd_ne hb]; exact fr b hb
    | none =>
      refine iteF ?_
      refine ⟨_, rfl, st, _, dx, _, _, rfl, S1.st, W.C_Store, W.na_Store__least, rfl, ?_⟩
      refine ⟨_, rfl, st, _, dx, _, _, rfl, S1.st, W.C_Store, W.na_Store_entries, rfl, ?_⟩
      refine ⟨_, rfl, ?_⟩
      refine iteD (fun h => ?_) (fun h => ?_)
      · have h : entries ≤ m := h
        have := hs1.le
        omega
      · refine ⟨_, rfl, st, _, dx, _, _, rfl, S1.st, W.C_Store, W.na_Store__least, rfl, ?_⟩
        exact k m H' S1 fr hs1 e
def sp_alloc : Addr → Sp := fun C vs H Q _ => ∃ st dx wl pl room entries least ws kvs, ∃ (x : Int) (z : Nat), vs = [.ref st, .int x, .int (z : Int)] ∧ StoreAt H C st dx wl pl room entries least ws kvs ∧ Seen kvs least ∧ (kvs.length : Int) < entries ∧ entries ≤ 100000 ∧ (ws.length : Int) + 3 + z ≤ room ∧ room ≤ 100000 ∧
  ∀ m H', StoreAt H' C st dx wl pl room entries m (ws ++ (m :: (z : Int) :: x :: List.replicate z 0)) (putK kvs (.inl m) (.int (ws.length : Int))) → Fr [st, wl, pl] H H' → Seen kvs m → valV kvs (.inl m) = none → Q (.int m) H'
theorem rep_int (z : Nat) (x : Int) : (List.replicate z [V.int x]).flatten = (List.replicate z x).map V.int := by
  induction z with
  | zero => rfl
  | succ n ih => rw [List.replicate_succ, List.flatten_cons, ih, List.replicate_succ, List.map_cons] <;> rfl
theorem ok_Store_allocate (W : WT P K mg base) : FnOk P w K mg base CX0 2 W.f_Store_allocate W.fd_Store_allocate ["self", "kind", "size"] (sp_alloc W.c_Store) := by
  refine W.F_Store_allocate.ok sc_Store_allocate (fun vs H Q E h => ?_) (fun cdv A outer s H vs Q E hr h => ?_)
  · obtain ⟨st, dx, wl, pl, room, entries, least, ws, kvs, x, z, rfl, _⟩ := h
    rfl
  · obtain ⟨st, dx, wl, pl, room, entries, least, ws, kvs, x, z, rfl, S, hs, hl, he, hz, hr2, k⟩ := h
    have hu1 := hu_of hr
    have hu64 := hu64_of hr
    refine ⟨_, (pss_cons (ps_if (pt_cmpR op_gtU (pe_op op_addU (pe_op op_addU (pe_callB call_lenU (by rfl) W.n_len bb_len (pa_cons (pe_fld (pv 0) rfl) pa_nil)) (pe_gi rfl W.g_HEADER)) (pv 2)) (pe_fld (pv 0) rfl) (by first | exact nomark _ | rfl)) (pss_one ps_never) pss_nil)
      (pss_cons (ps_set (i := 3) sc_Store_allocate.nd rfl (by first | exact Or.inl rfl | exact Or.inr rfl) (pe_meth0 (pv 0) W.C_Store W.m_Store_free_number (ok_Store_free_number W) (hr.mono (by decide)) W.b_Store_free_number .nil pass0 ))
      (pss_cons (ps_dput hu1 (pe_fld (pv 0) rfl) (pv 3) (pe_callB call_lenU (by rfl) W.n_len bb_len (pa_cons (pe_fld (pv 0) rfl) pa_nil)) rfl)
      (pss_cons (ps_expr (pe_bm PySem.F.plainAttrs_list PySem.F.slot_list_extend PySem.F.type_list_extend mt_extend (pe_fld (pv 0) rfl) (pa_cons (pe_lst (pa_cons (pv 3) (pa_cons (pv 2) (pa_cons (pv 1) pa_nil)))) pa_nil)))
      (pss_cons (ps_expr (pe_bm PySem.F.plainAttrs_list PySem.F.slot_list_extend PySem.F.type_list_extend mt_extend (pe_fld (pv 0) rfl) (pa_cons (pe_op op_mulU (pe_lst (pa_cons (pe_gi rfl W.g_NIL) pa_nil)) (pv 2)) pa_nil)))
      (pss_one (ps_ret (pv 3)))))))), ?_⟩
    refine ⟨_, rfl, st, _, dx, _, _, rfl, S.st, W.C_Store, W.na_Store_words, rfl, ?_⟩
    refine Or.inl ⟨_, Or.inl (SqL.of S.wl), ?_⟩
    rw [List.length_map]
    refine ⟨_, rfl, ?_⟩
    refine ⟨_, rfl, st, _, dx, _, _, rfl, S.st, W.C_Store, W.na_Store_room, rfl, ?_⟩
    refine ⟨_, rfl, ?_⟩
    refine iteD (fun h => ?_) (fun h => ?_)
    · have h : room < (ws.length : Int) + 3 + z := h
      omega
    · refine ⟨_, rfl, st, dx, _, rfl, S.st, rfl, ?_⟩
      refine ⟨st, dx, wl, pl, room, entries, least, ws, kvs, rfl, S, hs, hl, fun m H1 S1 fr hs1 hm => ?_⟩
      have n1 : st ≠ pl := ne_of S1.st S1.pl (by intro z; cases z)
      have n2 : wl ≠ pl := ne_of S1.wl S1.pl (by intro z; cases z)
      have n3 : st ≠ wl := ne_of S1.st S1.wl (by intro z; cases z)
      refine ⟨_, rfl, st, _, dx, _, _, rfl, S1.st, W.C_Store, W.na_Store_words, rfl, ?_⟩
      refine Or.inl ⟨_, Or.inl (SqL.of S1.wl), ?_⟩
      rw [List.length_map]
      refine ⟨_, rfl, st, _, dx, _, _, rfl, S1.st, W.C_Store, W.na_Store__places, rfl, ?_⟩
      refine ⟨_, rfl, pl, _, rfl, DPut.k (k := Sum.inl m) S1.pl (by rw [sizeLine_eq]; omega), ?_⟩
      generalize e2 : upd H1 pl (.dK (putK kvs (Sum.inl m) (.int (ws.length : Int)))) = H2
      have s2 : H2 st = some (.ins W.c_Store dx (sF room entries wl pl m)) := by rw [← e2, upd_ne n1]; exact S1.st
      have w2 : H2 wl = some (.lst (ws.map V.int)) := by rw [← e2, upd_ne n2]; exact S1.wl
      have p2 : H2 pl = some (.dK (putK kvs (Sum.inl m) (.int (ws.length : Int)))) := by rw [← e2]; exact upd_same
      have f2 : Fr [st, wl, pl] H H2 := by
        refine Fr.trans (H1 := H1) (fun b o e n => ?_) (by rw [← e2]; exact Fr.at (by simp))
        rw [fr b (fun z => n (by simp [z]))]; exact e
      refine ⟨_, rfl, st, _, dx, _, _, rfl, s2, W.C_Store, W.na_Store_words, rfl, Or.inl ⟨rfl, _, SqL.of w2⟩, ?_⟩
      refine ⟨_, rfl, _, rfl, _, rfl, (by show 3 ≤ sizeLine; decide), fun q hq => ?_⟩
      have nq : wl ≠ q := ne_of_none w2 hq
      refine ⟨wl, q, _, _, rfl, rfl, (by rw [upd_ne nq]; exact w2), upd_same, (by rw [List.length_map, sizeLine_eq]; show ws.length + 3 ≤ _; omega), ?_⟩
      have ew : ws.map V.int ++ [V.int m, .int (z : Int), .int x] = (ws ++ [m, (z : Int), x]).map V.int := by rw [List.map_append]; rfl
      rw [ew]
      generalize e3 : upd (upd H2 q (.lst [V.int m, .int (z : Int), .int x])) wl (.lst ((ws ++ [m, (z : Int), x]).map V.int)) = H3
      have s3 : H3 st = some (.ins W.c_Store dx (sF room entries wl pl m)) := by rw [← e3, upd_ne n3, upd_ne (ne_of_none s2 hq)]; exact s2
      have w3 : H3 wl = some (.lst ((ws ++ [m, (z : Int), x]).map V.int)) := by rw [← e3]; exact upd_same
      have p3 : H3 pl = some (.dK (putK kvs (Sum.inl m) (.int (ws.length : Int)))) := by rw [← e3, upd_ne n2.symm, upd_ne (ne_of_none p2 hq)]; exact p2
      have f3 : Fr [st, wl, pl] H H3 := by
        rw [← e3]
        exact (f2.trans (Fr.new hq)).trans (Fr.at (by simp))
      refine ⟨_, rfl, st, _, dx, _, _, rfl, s3, W.C_Store, W.na_Store_words, rfl, Or.inl ⟨rfl, _, SqL.of w3⟩, ?_⟩
      refine ⟨(by show 1 ≤ sizeLine; decide), fun q1 hq1 => ?_⟩
      refine ⟨_, rfl, ?_⟩
      refine ⟨q1, (z : Int), _, rfl, rfl, upd_same, by omega, by omega, (by show 1 * ((z : Int)).toNat ≤ _; rw [sizeLine_eq]; omega), fun q2 hq2 => ?_⟩
      rw [Int.toNat_natCast, rep_int]
      have f4 := (f3.trans (Fr.new (o := .lst [V.int 0]) hq1)).trans (Fr.new (o := .lst ((List.replicate z (0 : Int)).map V.int)) hq2)
      generalize e5 : upd (upd H3 q1 (.lst [V.int 0])) q2 (.lst ((List.replicate z (0 : Int)).map V.int)) = H5
      have g5 : ∀ b o, H3 b = some o → H5 b = some o := fun b o e => by
        have h1 : upd H3 q1 (.lst [V.int 0]) b = some o := by rw [upd_ne (ne_of_none e hq1)]; exact e
        rw [← e5, upd_ne (ne_of_none h1 hq2)]; exact h1
      rw [e5] at f4
      refine ⟨wl, q2, _, _, rfl, rfl, g5 _ _ w3, (by rw [← e5]; exact upd_same), (by simp only [List.length_map, List.length_append, List.length_replicate]; rw [sizeLine_eq]; show ws.length + 3 + z ≤ _; omega), ?_⟩
      have ew2 : (ws ++ [m, (z : Int), x]).map V.int ++ (List.replicate z (0 : Int)).map V.int = (ws ++ (m :: (z : Int) :: x :: List.replicate z 0)).map V.int := by rw [← List.map_append, List.append_assoc]; rfl
      rw [ew2]
      refine ⟨_, rfl, ?_⟩
      refine k m _ ⟨?_, upd_same, ?_⟩ (f4.trans (Fr.at (by simp))) hs1 hm
      · rw [upd_ne n3]; exact g5 _ _ s3
      · rw [upd_ne n2.symm]; exact g5 _ _ p3
end

end LX
namespace LX
open PySem PySem.Spec PyProof.Rows L2 NdefX
structure Ob where
  num : Int
  kind : Int
  sl : List Int
  live : Bool
def fl (o : Ob) : List Int := o.num :: (o.sl.length : Int) :: o.kind :: o.sl
def flat (O : List Ob) : List Int := O.flatMap fl
def off (O : List Ob) (i : Nat) : Nat := (flat (O.take i)).length
theorem flat_app (A B : List Ob) : flat (A ++ B) = flat A ++ flat B := List.flatMap_append
theorem flat_cons (o : Ob) (B : List Ob) : flat (o :: B) = fl o ++ flat B := List.flatMap_cons
theorem fl_len (o : Ob) : (fl o).length = 3 + o.sl.length := by unfold fl; simp; omega
theorem split_at {α : Type} {l : List α} {i : Nat} {x : α} (h : l[i]? = some x) : l = l.take i ++ x :: l.drop (i + 1) := by
  obtain ⟨hi, e⟩ := List.getElem?_eq_some_iff.mp h
  subst e
  rw [List.getElem_cons_drop, List.take_append_drop]
theorem flat_split {O : List Ob} {i : Nat} {o : Ob} (h : O[i]? = some o) : flat O = flat (O.take i) ++ (fl o ++ flat (O.drop (i + 1))) := by
  rw [← flat_cons, ← flat_app, ← split_at h]
theorem flat_set {O : List Ob} {i : Nat} {o o' : Ob} (h : O[i]? = some o) : flat (O.set i o') = flat (O.take i) ++ (fl o' ++ flat (O.drop (i + 1))) := by
  have hi := (List.getElem?_eq_some_iff.mp h).1
  rw [List.set_eq_take_append_cons_drop, if_pos hi, flat_app, flat_cons]
theorem off_lt {O : List Ob} {i : Nat} {o : Ob} (h : O[i]? = some o) : off O i + 3 + o.sl.length ≤ (flat O).length := by
  have := congrArg List.length (flat_split h)
  rw [List.length_append, List.length_append, fl_len] at this
  unfold off
  omega
theorem at_split {α : Type} {A B l : List α} {k : Nat} (hk : k < l.length) : (A ++ (l ++ B))[A.length + k]? = l[k]? := by
  rw [List.getElem?_append_right (by omega), Nat.add_sub_cancel_left, List.getElem?_append_left hk]
theorem flat_at {O : List Ob} {i k : Nat} {o : Ob} (h : O[i]? = some o) (hk : k < (fl o).length) : (flat O)[off O i + k]? = (fl o)[k]? := by
  have e := flat_split h
  have := at_split (A := flat (O.take i)) (B := flat (O.drop (i + 1))) hk
  rw [← e] at this
  exact this
theorem flat_num {O : List Ob} {i : Nat} {o : Ob} (h : O[i]? = some o) : (flat O)[off O i]? = some o.num := flat_at (k := 0) h (by rw [fl_len]; omega)
theorem flat_size {O : List Ob} {i : Nat} {o : Ob} (h : O[i]? = some o) : (flat O)[off O i + 1]? = some (o.sl.length : Int) := flat_at (k := 1) h (by rw [fl_len]; omega)
theorem flat_kind {O : List Ob} {i : Nat} {o : Ob} (h : O[i]? = some o) : (flat O)[off O i + 2]? = some o.kind := flat_at (k := 2) h (by rw [fl_len]; omega)
theorem flat_slots {O : List Ob} {i : Nat} {o : Ob} (h : O[i]? = some o) : seg (flat O) (off O i + 3) o.sl.length = o.sl := by
  unfold seg
  rw [flat_split h, ← List.drop_drop]
  unfold off
  rw [List.drop_left]
  show ((o.sl ++ flat (O.drop (i + 1))).take _) = _
  rw [List.take_left]
theorem set_split {α : Type} {A B l : List α} {k : Nat} {x : α} (hk : k < l.length) : (A ++ (l ++ B)).set (A.length + k) x = A ++ (l.set k x ++ B) := by
  rw [List.set_append_right _ _ (by omega), Nat.add_sub_cancel_left, List.set_append_left _ _ hk]
theorem set_flat {O : List Ob} {i k : Nat} {o o' : Ob} {x : Int} (h : O[i]? = some o) (hk : k < (fl o).length) (e : (fl o).set k x = fl o') : (flat O).set (off O i + k) x = flat (O.set i o') := by
  rw [flat_set h, ← e]
  have := set_split (A := flat (O.take i)) (B := flat (O.drop (i + 1))) (x := x) hk
  rw [← flat_split h] at this
  exact this
theorem set_num {O : List Ob} {i : Nat} {o : Ob} (x : Int) (h : O[i]? = some o) : (flat O).set (off O i) x = flat (O.set i { o with num := x }) := set_flat (k := 0) h (by rw [fl_len]; omega) rfl
theorem set_kind {O : List Ob} {i : Nat} {o : Ob} (x : Int) (h : O[i]? = some o) : (flat O).set (off O i + 2) x = flat (O.set i { o with kind := x }) := set_flat (k := 2) h (by rw [fl_len]; omega) rfl
theorem set_slot {O : List Ob} {i a : Nat} {o : Ob} (x : Int) (h : O[i]? = some o) (ha : a < o.sl.length) : (flat O).set (off O i + 3 + a) x = flat (O.set i { o with sl := o.sl.set a x }) := by
  have := set_flat (k := 3 + a) (o' := { o with sl := o.sl.set a x }) (x := x) h (by rw [fl_len]; omega) (by
    unfold fl
    rw [show 3 + a = a + 1 + 1 + 1 by omega]
    simp)
  rw [← this, Nat.add_assoc]
theorem flat_kill {O : List Ob} {i : Nat} {o : Ob} (h : O[i]? = some o) (b : Bool) : flat (O.set i { o with live := b }) = flat O := by
  rw [flat_set h, flat_split h]; rfl
theorem off_set {O : List Ob} {i j : Nat} {o o' : Ob} (h : O[i]? = some o) (hl : o'.sl.length = o.sl.length) : off (O.set i o') j = off O j := by
  unfold off
  rw [List.take_set]
  by_cases hij : i < j
  · have h' : (O.take j)[i]? = some o := by rw [List.getElem?_take, if_pos hij]; exact h
    rw [flat_set h', flat_split h', List.length_append, List.length_append, List.length_append, List.length_append, fl_len, fl_len, hl]
  · rw [List.set_eq_of_length_le (by rw [List.length_take]; omega)]
theorem off_app {O B : List Ob} {i : Nat} (h : i ≤ O.length) : off (O ++ B) i = off O i := by
  unfold off
  rw [List.take_append_of_le_length h]
theorem off_end {O : List Ob} : off O O.length = (flat O).length := by unfold off; rw [List.take_length]
section
variable {κ : Type} [DecidableEq κ]
theorem valV_drop (k j : κ) : ∀ kvs : List (κ × V), valV (dropK kvs k) j = if j = k then none else valV kvs j
  | [] => by simp [dropK, valV]
  | p :: r => by
    have ih := valV_drop k j r
    unfold dropK at ih ⊢
    by_cases e : p.1 = k
    · rw [List.filter_cons_of_neg (by simp [e]), ih]
      by_cases hj : j = k
      · rw [if_pos hj, if_pos hj]
      · rw [if_neg hj, if_neg hj, valV_neg (fun z => hj (z.symm.trans e))]
    · rw [List.filter_cons_of_pos (by simp [e])]
      by_cases hp : p.1 = j
      · rw [valV_pos hp, valV_pos hp, if_neg (fun z => e (hp.trans z))]
      · rw [valV_neg hp, valV_neg hp, ih]
theorem nd_drop {kvs : List (κ × V)} {k : κ} (h : (kvs.map (·.1)).Nodup) : ((dropK kvs k).map (·.1)).Nodup := h.sublist (List.Sublist.map _ List.filter_sublist)
theorem mem_val {kvs : List (κ × V)} {k : κ} (h : k ∈ kvs.map (·.1)) : ∃ v, valV kvs k = some v := by
  obtain ⟨p, hp, e⟩ := List.mem_map.mp h
  have : (valV kvs k).isSome = true := by
    rw [← valV_any]
    exact List.any_eq_true.mpr ⟨p, hp, decide_eq_true e⟩
  exact Option.isSome_iff_exists.mp this
theorem nd_put {kvs : List (κ × V)} {k : κ} {v : V} (h : (kvs.map (·.1)).Nodup) : ((putK kvs k v).map (·.1)).Nodup := by
  unfold putK
  split
  · have e : ∀ l : List (κ × V), (l.map (fun kv => if kv.1 = k then (kv.1, v) else kv)).map (·.1) = l.map (·.1) := by
      intro l
      rw [List.map_map]
      apply List.map_congr_left
      intro a _
      show (if a.1 = k then (a.1, v) else a).1 = a.1
      split <;> rfl
    rw [e]; exact h
  · rename_i hn
    rw [List.map_append]
    refine List.nodup_append.mpr ⟨h, by simp, fun a ha b hb e => ?_⟩
    subst e
    have hb : a = k := by simpa using hb
    subst hb
    obtain ⟨v, hv⟩ := mem_val ha
    rw [valV_any, hv] at hn
    exact hn rfl
end
/-- the table and the words tell the row -/
structure Good (O : List Ob) (kvs : List (Key × V)) (least : Int) : Prop where
  val : ∀ k v, valV kvs k = some v ↔ ∃ i o, O[i]? = some o ∧ o.live = true ∧ k = .inl o.num ∧ v = .int (off O i : Nat)
  nd : (kvs.map (·.1)).Nodup
  un : ∀ (i j : Nat) (o o' : Ob), O[i]? = some o → O[j]? = some o' → o.live = true → o'.live = true → o.num = o'.num → i = j
  seen : Seen kvs least
theorem Good.at {O : List Ob} {kvs : List (Key × V)} {least : Int} (G : Good O kvs least) {i : Nat} {o : Ob} (h : O[i]? = some o) (hl : o.live = true) : valV kvs (.inl o.num) = some (.int (off O i : Nat)) := (G.val _ _).mpr ⟨i, o, h, hl, rfl, rfl⟩
theorem Good.ints {O : List Ob} {kvs : List (Key × V)} {least : Int} (G : Good O kvs least) : ∃ ns : List Int, kvs.map (·.1) = ns.map Sum.inl ∧ ns.Perm ((O.filter (·.live)).map (·.num)) := by
  have hk : ∀ k ∈ kvs.map (·.1), ∃ n, k = Sum.inl n := fun k hk => by
    obtain ⟨v, hv⟩ := mem_val hk
    obtain ⟨i, o, _, _, e, _⟩ := (G.val _ _).mp hv
    exact ⟨_, e⟩
  obtain ⟨ns, hns⟩ : ∃ ns : List Int, kvs.map (·.1) = ns.map Sum.inl := by
    generalize kvs.map (·.1) = l at hk
    induction l with
    | nil => exact ⟨[], rfl⟩
    | cons a r ih =>
      obtain ⟨n, e⟩ := hk a List.mem_cons_self
      obtain ⟨m, em⟩ := ih fun k h => hk k (List.mem_cons_of_mem _ h)
      exact ⟨n :: m, by rw [e, em]; rfl⟩
  refine ⟨ns, hns, ?_⟩
  have nd1 : ns.Nodup := by
    have := G.nd
    rw [hns] at this
    exact (List.pairwise_map.mp this).imp fun h e => h (by rw [e])
  have nd2 : ((O.filter (·.live)).map (·.num)).Nodup := by
    have key : ∀ (l : List Ob), (∀ (i j : Nat) (o o' : Ob), l[i]? = some o → l[j]? = some o' → o.live = true → o'.live = true → o.num = o'.num → i = j) → ((l.filter (·.live)).map (·.num)).Nodup := by
      intro l
      induction l with
      | nil => intro _; exact List.nodup_nil
      | cons a r ih =>
        intro h
        have ihr := ih fun i j o o' h1 h2 l1 l2 e => by
          have := h (i + 1) (j + 1) o o' h1 h2 l1 l2 e
          omega
        by_cases ha : a.live = true
        · rw [List.filter_cons_of_pos (by exact ha), List.map_cons]
          refine List.nodup_cons.mpr ⟨fun hm => ?_, ihr⟩
          obtain ⟨o, ho, e⟩ := List.mem_map.mp hm
          obtain ⟨h1, h2⟩ := List.mem_filter.mp ho
          obtain ⟨j, hj⟩ := List.getElem?_of_mem h1
          have := h 0 (j + 1) a o rfl hj ha h2 e.symm
          omega
        · rw [List.filter_cons_of_neg (by exact ha)]
          exact ihr
    exact key O G.un
  refine (List.perm_ext_iff_of_nodup nd1 nd2).mpr fun n => ?_
  have h1 : n ∈ ns ↔ (Sum.inl n : Key) ∈ kvs.map (·.1) := by
    rw [hns]
    constructor
    · exact fun h => List.mem_map.mpr ⟨n, h, rfl⟩
    · intro h
      obtain ⟨m, hm, e⟩ := List.mem_map.mp h
      cases e
      exact hm
  rw [h1]
  constructor
  · intro h
    obtain ⟨v, hv⟩ := mem_val h
    obtain ⟨i, o, q1, q2, q3, _⟩ := (G.val _ _).mp hv
    cases q3
    exact List.mem_map.mpr ⟨o, List.mem_filter.mpr ⟨List.mem_of_getElem? q1, q2⟩, rfl⟩
  · intro h
    obtain ⟨o, ho, e⟩ := List.mem_map.mp h
    obtain ⟨h1, h2⟩ := List.mem_filter.mp ho
    obtain ⟨i, hi⟩ := List.getElem?_of_mem h1
    have := val_mem (G.at hi h2)
    rw [e] at this
    exact List.mem_map.mpr ⟨_, this, rfl⟩
theorem set_get {O : List Ob} {i j : Nat} {o o' : Ob} (h : O[i]? = some o) : (O.set i o')[j]? = if j = i then some o' else O[j]? := by
  have hi := (List.getElem?_eq_some_iff.mp h).1
  rw [List.getElem?_set]
  by_cases e : i = j
  · subst e; simp [hi]
  · rw [if_neg e, if_neg (Ne.symm e)]
/-- the contents of an object change -/
theorem Good.same {O : List Ob} {kvs : List (Key × V)} {least : Int} (G : Good O kvs least) {i : Nat} {o o' : Ob} (h : O[i]? = some o) (hn : o'.num = o.num) (hv : o'.live = o.live) (hl : o'.sl.length = o.sl.length) : Good (O.set i o') kvs least := by
  refine ⟨fun k v => ?_, G.nd, fun a b x y ha hb la lb e => ?_, G.seen⟩
  · rw [G.val k v]
    constructor
    · rintro ⟨j, x, hj, lx, rfl, rfl⟩
      by_cases e : j = i
      · subst e
        rw [h] at hj; cases hj
        exact ⟨j, o', by rw [set_get h, if_pos rfl], by rw [hv]; exact lx, by rw [hn], by rw [off_set h hl]⟩
      · exact ⟨j, x, by rw [set_get h, if_neg e]; exact hj, lx, rfl, by rw [off_set h hl]⟩
    · rintro ⟨j, x, hj, lx, rfl, rfl⟩
      rw [set_get h] at hj
      rw [off_set h hl]
      by_cases e : j = i
      · subst e
        rw [if_pos rfl] at hj; cases hj
        exact ⟨j, o, h, by rw [← hv]; exact lx, by rw [hn], rfl⟩
      · rw [if_neg e] at hj
        exact ⟨j, x, hj, lx, rfl, rfl⟩
  · have g : ∀ (a : Nat) (x : Ob), (O.set i o')[a]? = some x → ∃ z, O[a]? = some z ∧ z.live = x.live ∧ z.num = x.num := fun a x ha => by
      rw [set_get h] at ha
      by_cases e : a = i
      · subst e; rw [if_pos rfl] at ha; cases ha
        exact ⟨o, h, hv.symm, hn.symm⟩
      · rw [if_neg e] at ha; exact ⟨x, ha, rfl, rfl⟩
    obtain ⟨z1, q1, q2, q3⟩ := g a x ha
    obtain ⟨z2, r1, r2, r3⟩ := g b y hb
    exact G.un a b z1 z2 q1 r1 (q2.trans la) (r2.trans lb) (by rw [q3, r3, e])
theorem Good.kill {O : List Ob} {kvs : List (Key × V)} {least : Int} (G : Good O kvs least) {i : Nat} {o : Ob} (h : O[i]? = some o) (ho : o.live = true) (hn : 0 ≤ o.num) :
    Good (O.set i { o with live := false }) (dropK kvs (.inl o.num)) (if o.num < least then o.num else least) := by
  refine ⟨fun k v => ?_, nd_drop G.nd, fun a b x y ha hb la lb e => ?_, ?_⟩
  · rw [valV_drop]
    constructor
    · intro hv
      split at hv
      · cases hv
      · rename_i hk
        obtain ⟨j, x, hj, lx, rfl, rfl⟩ := (G.val _ _).mp hv
        have e : j ≠ i := fun e => by subst e; rw [h] at hj; cases hj; exact hk rfl
        exact ⟨j, x, by rw [set_get h, if_neg e]; exact hj, lx, rfl, by rw [off_set (o' := { o with live := false }) h rfl]⟩
    · rintro ⟨j, x, hj, lx, rfl, rfl⟩
      rw [set_get h] at hj
      rw [off_set (o' := { o with live := false }) h rfl]
      by_cases e : j = i
      · subst e; rw [if_pos rfl] at hj; cases hj; cases lx
      · rw [if_neg e] at hj
        rw [if_neg (fun z => e (G.un j i x o hj h lx ho (Sum.inl.inj z)))]
        exact (G.val _ _).mpr ⟨j, x, hj, lx, rfl, rfl⟩
  · have g : ∀ (a : Nat) (x : Ob), x.live = true → (O.set i { o with live := false })[a]? = some x → O[a]? = some x := fun a x lx ha => by
      rw [set_get h] at ha
      by_cases e : a = i
      · subst e; rw [if_pos rfl] at ha; cases ha; cases lx
      · rw [if_neg e] at ha; exact ha
    exact G.un a b x y (g a x la ha) (g b y lb hb) la lb e
  · have hs := G.seen
    refine ⟨by split; exact hn; exact hs.1, fun n h0 h1 => ?_⟩
    rw [valV_drop]
    have h2 : n < o.num ∧ n < least ∨ ¬ o.num < least ∧ n < least := by split at h1 <;> omega
    rw [if_neg (fun z => by have := Sum.inl.inj z; omega)]
    exact hs.2 n h0 (by omega)
def swapO (O : List Ob) (i j : Nat) (a b : Ob) : List Ob := (O.set i { a with num := b.num }).set j { b with num := a.num }
theorem swap_get {O : List Ob} {i j k : Nat} {a b : Ob} (ha : O[i]? = some a) (hb : O[j]? = some b) : (swapO O i j a b)[k]? = if k = j then some { b with num := a.num } else if k = i then some { a with num := b.num } else O[k]? := by
  unfold swapO
  have hj : (O.set i { a with num := b.num })[j]? = some (if j = i then { a with num := b.num } else b) := by
    rw [set_get ha]
    split
    · rfl
    · exact hb
  rw [set_get hj, set_get ha]
theorem swap_off {O : List Ob} {i j k : Nat} {a b : Ob} (ha : O[i]? = some a) (hb : O[j]? = some b) : off (swapO O i j a b) k = off O k := by
  unfold swapO
  have hj : (O.set i { a with num := b.num })[j]? = some (if j = i then { a with num := b.num } else b) := by
    rw [set_get ha]
    split
    · rfl
    · exact hb
  rw [off_set hj, off_set ha] <;> (try rfl)
  split
  · rename_i e; subst e; rw [ha] at hb; cases hb; rfl
  · rfl
theorem swap_flat {O : List Ob} {i j : Nat} {a b : Ob} (ha : O[i]? = some a) (hb : O[j]? = some b) : ((flat O).set (off O i) b.num).set (off O j) a.num = flat (swapO O i j a b) := by
  have hj : (O.set i { a with num := b.num })[j]? = some (if j = i then { a with num := b.num } else b) := by
    rw [set_get ha]
    split
    · rfl
    · exact hb
  rw [set_num b.num ha]
  have e : off O j = off (O.set i { a with num := b.num }) j := (off_set (o' := { a with num := b.num }) ha rfl).symm
  rw [e, set_num a.num hj]
  unfold swapO
  congr 1
  by_cases q : j = i
  · subst q; rw [ha] at hb; cases hb
    rw [if_pos rfl]
  · rw [if_neg q]
theorem Good.swap {O : List Ob} {kvs : List (Key × V)} {least : Int} (G : Good O kvs least) {i j : Nat} {a b : Ob} (ha : O[i]? = some a) (hb : O[j]? = some b) (la : a.live = true) (lb : b.live = true) :
    Good (swapO O i j a b) (putK (putK kvs (.inl a.num) (.int (off O j : Nat))) (.inl b.num) (.int (off O i : Nat))) least := by
  have vv : ∀ k, valV (putK (putK kvs (.inl a.num) (.int (off O j : Nat))) (.inl b.num) (.int (off O i : Nat))) k = if k = .inl b.num then some (.int (off O i : Nat)) else if k = .inl a.num then some (.int (off O j : Nat)) else valV kvs k := fun k => by rw [valV_put, valV_put]
  refine ⟨fun k v => ?_, nd_put (nd_put G.nd), fun p q x y hp hq lx ly e => ?_, G.seen.1, fun n h0 h1 => ?_⟩
  · rw [vv]
    constructor
    · intro hv
      split at hv
      · rename_i hk
        cases hv
        by_cases q : i = j
        · subst q; rw [ha] at hb; cases hb
          exact ⟨i, { a with num := a.num }, by rw [swap_get ha ha, if_pos rfl], la, hk, by rw [swap_off ha ha]⟩
        · exact ⟨i, { a with num := b.num }, by rw [swap_get ha hb, if_neg q, if_pos rfl], la, hk, by rw [swap_off ha hb]⟩
      · split at hv
        · rename_i hk
          cases hv
          exact ⟨j, { b with num := a.num }, by rw [swap_get ha hb, if_pos rfl], lb, hk, by rw [swap_off ha hb]⟩
        · rename_i k1 k2
          obtain ⟨m, x, hm, lx, rfl, rfl⟩ := (G.val _ _).mp hv
          have e1 : m ≠ j := fun e => by subst e; rw [hb] at hm; cases hm; exact k1 rfl
          have e2 : m ≠ i := fun e => by subst e; rw [ha] at hm; cases hm; exact k2 rfl
          exact ⟨m, x, by rw [swap_get ha hb, if_neg e1, if_neg e2]; exact hm, lx, rfl, by rw [swap_off ha hb]⟩
    · rintro ⟨m, x, hm, lx, rfl, rfl⟩
      rw [swap_get ha hb] at hm
      rw [swap_off ha hb]
      by_cases e1 : m = j
      · subst e1
        rw [if_pos rfl] at hm; cases hm
        by_cases q : a.num = b.num
        · have := G.un i m a b ha hb la lb q
          subst this
          rw [if_pos (by rw [q])]
        · rw [if_neg (fun z => q (Sum.inl.inj z)), if_pos rfl]
      · rw [if_neg e1] at hm
        by_cases e2 : m = i
        · subst e2
          rw [if_pos rfl] at hm; cases hm
          rw [if_pos rfl]
        · rw [if_neg e2] at hm
          rw [if_neg (fun z => e1 (G.un m j x b hm hb lx lb (Sum.inl.inj z))), if_neg (fun z => e2 (G.un m i x a hm ha lx la (Sum.inl.inj z)))]
          exact (G.val _ _).mpr ⟨m, x, hm, lx, rfl, rfl⟩
  · rw [swap_get ha hb] at hp hq
    by_cases p1 : p = j <;> by_cases q1 : q = j
    · omega
    · subst p1
      rw [if_pos rfl] at hp; cases hp
      rw [if_neg q1] at hq
      by_cases q2 : q = i
      · subst q2; rw [if_pos rfl] at hq; cases hq
        exact (G.un q p a b ha hb la lb e).symm
      · rw [if_neg q2] at hq
        exact absurd (G.un i q a y ha hq la ly e).symm q2
    · subst q1
      rw [if_pos rfl] at hq; cases hq
      rw [if_neg p1] at hp
      by_cases p2 : p = i
      · subst p2; rw [if_pos rfl] at hp; cases hp
        exact G.un p q a b ha hb la lb e.symm
      · rw [if_neg p2] at hp
        exact absurd (G.un p i x a hp ha lx la e) p2
    · rw [if_neg p1] at hp
      rw [if_neg q1] at hq
      by_cases p2 : p = i <;> by_cases q2 : q = i
      · omega
      · subst p2; rw [if_pos rfl] at hp; cases hp
        rw [if_neg q2] at hq
        exact absurd (G.un j q b y hb hq lb ly e).symm q1
      · subst q2; rw [if_pos rfl] at hq; cases hq
        rw [if_neg p2] at hp
        exact absurd (G.un p j x b hp hb lx lb e) p1
      · rw [if_neg p2] at hp; rw [if_neg q2] at hq
        exact G.un p q x y hp hq lx ly e
  · rw [vv]
    split
    · rfl
    · split
      · rfl
      · exact G.seen.2 n h0 h1
theorem Good.add {O : List Ob} {kvs : List (Key × V)} {least : Int} (G : Good O kvs least) {o : Ob} (ho : o.live = true) (hn : valV kvs (.inl o.num) = none) (hs : Seen kvs o.num) :
    Good (O ++ [o]) (putK kvs (.inl o.num) (.int (flat O).length)) o.num := by
  have no : ∀ (i : Nat) (x : Ob), O[i]? = some x → x.live = true → x.num ≠ o.num := fun i x hi lx e => by
    have := G.at hi lx
    rw [e, hn] at this
    cases this
  have ga : ∀ k : Nat, (O ++ [o])[k]? = if k < O.length then O[k]? else if k = O.length then some o else none := fun k => by
    by_cases h : k < O.length
    · rw [if_pos h, List.getElem?_append_left h]
    · rw [if_neg h, List.getElem?_append_right (by omega)]
      by_cases h2 : k = O.length
      · rw [if_pos h2, h2, Nat.sub_self]; rfl
      · rw [if_neg h2]
        exact List.getElem?_eq_none_iff.mpr (by simp; omega)
  refine ⟨fun k v => ?_, nd_put G.nd, fun p q x y hp hq lx ly e => ?_, hs.1, fun n h0 h1 => ?_⟩
  · rw [valV_put]
    constructor
    · intro hv
      split at hv
      · rename_i hk
        cases hv
        exact ⟨O.length, o, by rw [ga, if_neg (by omega), if_pos rfl], ho, hk, by rw [off_app (Nat.le_refl _), off_end]⟩
      · obtain ⟨m, x, hm, lx, rfl, rfl⟩ := (G.val _ _).mp hv
        have hl := (List.getElem?_eq_some_iff.mp hm).1
        exact ⟨m, x, by rw [ga, if_pos hl]; exact hm, lx, rfl, by rw [off_app (by omega)]⟩
    · rintro ⟨m, x, hm, lx, rfl, rfl⟩
      rw [ga] at hm
      by_cases hl : m < O.length
      · rw [if_pos hl] at hm
        rw [off_app (by omega), if_neg (fun z => no m x hm lx (Sum.inl.inj z))]
        exact (G.val _ _).mpr ⟨m, x, hm, lx, rfl, rfl⟩
      · rw [if_neg hl] at hm
        split at hm
        · rename_i e; cases hm
          rw [if_pos rfl, e, off_app (Nat.le_refl _), off_end]
        · cases hm
  · rw [ga] at hp hq
    split at hp
    · split at hq
      · exact G.un p q x y hp hq lx ly e
      · split at hq
        · cases hq; exact absurd e (no p x hp lx)
        · cases hq
    · split at hp
      · cases hp
        split at hq
        · exact absurd e.symm (no q y hq ly)
        · split at hq
          · omega
          · cases hq
      · cases hp
  · rw [valV_put]
    split
    · rfl
    · exact hs.2 n h0 h1


end LX
namespace LX
open PySem PySem.Spec PyProof.Rows L2 NdefX
theorem take_filter_yes {α : Type} {l : List α} {p : α → Bool} {i : Nat} {x : α} (h : l[i]? = some x) (hp : p x = true) : (l.take (i + 1)).filter p = (l.take i).filter p ++ [x] := by
  rw [List.take_succ, h, List.filter_append]
  simp [hp]
theorem take_filter_no {α : Type} {l : List α} {p : α → Bool} {i : Nat} {x : α} (h : l[i]? = some x) (hp : p x = false) : (l.take (i + 1)).filter p = (l.take i).filter p := by
  rw [List.take_succ, h, List.filter_append]
  simp [hp]
section
variable {P : Program} {w : World} {K : PySem.W.Frag} {mg : Str → Option Value} {base : Heap}
theorem Fr.skip {F : List Addr} {H H' : Hp} {q : Addr} {o : HO} (f : Fr F H H') (hq : H q = none) : Fr F H (upd H' q o) := fun b u e n => by rw [upd_ne (ne_of_none e hq)]; exact f b u e n
end
theorem Fr.of {F : List Addr} {H H' : Hp} {x y : Addr} (h : ∀ b, b ≠ x → b ≠ y → H' b = H b) (hx : x ∈ F) (hy : y ∈ F) : Fr F H H' := fun b o e n => by
  rw [h b (fun z => n (by rw [z]; exact hx)) (fun z => n (by rw [z]; exact hy))]; exact e
theorem StoreAt.keep {H H' : Hp} {C st dx wl pl : Addr} {room entries least : Int} {ws : List Int} {kvs : List (Key × V)} {F : List Addr} (S : StoreAt H C st dx wl pl room entries least ws kvs) (f : Fr F H H') (h : ∀ b, b ∈ [st, wl, pl] → b ∉ F) : StoreAt H' C st dx wl pl room entries least ws kvs :=
  ⟨f _ _ S.st (h _ (by simp)), f _ _ S.wl (h _ (by simp)), f _ _ S.pl (h _ (by simp))⟩
theorem Good.kl {O : List Ob} {kvs : List (Key × V)} {least : Int} (G : Good O kvs least) : kvs.length ≤ O.length := by
  obtain ⟨ns, h1, h2⟩ := G.ints
  have e := congrArg List.length h1
  rw [List.length_map, List.length_map, h2.length_eq, List.length_map] at e
  have := List.length_filter_le (fun o : Ob => o.live) O
  omega
theorem get_snoc {α : Type} {l : List α} {x y : α} {k : Nat} (h : (l ++ [x])[k]? = some y) : l[k]? = some y ∨ k = l.length ∧ y = x := by
  by_cases hk : k < l.length
  · rw [List.getElem?_append_left hk] at h; exact Or.inl h
  · rw [List.getElem?_append_right (by omega)] at h
    have hlt := (List.getElem?_eq_some_iff.mp h).1
    have : k - l.length = 0 := by simpa using hlt
    rw [this] at h
    exact Or.inr ⟨by omega, by cases h; rfl⟩
section
variable {P : Program} {w : World} {K : PySem.W.Frag} {mg : Str → Option Value} {base : Heap}
theorem iteE {l : List V} {A B : Prop} (h1 : l ≠ [] → A) (h2 : B) : if (!l.isEmpty) = true then A else B := by
  cases l with
  | nil => exact iteF h2
  | cons a r => exact iteT (h1 (by simp))
theorem get_app {α : Type} {l : List α} {x : α} {i : Nat} {y : α} (h : l[i]? = some y) : (l ++ [x])[i]? = some y := by
  rw [List.getElem?_append_left (List.getElem?_eq_some_iff.mp h).1]; exact h
end
def Live (O : List Ob) (n : Int) : Prop := ∃ (i : Nat) (o : Ob), O[i]? = some o ∧ o.live = true ∧ o.num = n
theorem Good.iff {O : List Ob} {kvs : List (Key × V)} {least : Int} (G : Good O kvs least) (n : Int) : (valV kvs (.inl n)).isSome = true ↔ Live O n := by
  constructor
  · intro h
    obtain ⟨v, hv⟩ := Option.isSome_iff_exists.mp h
    obtain ⟨i, o, h1, h2, h3, _⟩ := (G.val _ _).mp hv
    exact ⟨i, o, h1, h2, (Sum.inl.inj h3).symm⟩
  · rintro ⟨i, o, h1, h2, rfl⟩
    rw [G.at h1 h2]; rfl
theorem nd_len {α : Type} [DecidableEq α] : ∀ (l m : List α), l.Nodup → (∀ x ∈ l, x ∈ m) → l.length ≤ m.length
  | [], _, _, _ => Nat.zero_le _
  | a :: l, m, h, hs => by
    obtain ⟨h1, h2⟩ := List.nodup_cons.mp h
    have hm := hs a List.mem_cons_self
    have := nd_len l (m.erase a) h2 fun x hx => (List.mem_erase_of_ne (fun e => h1 (by rw [← e]; exact hx))).mpr (hs x (List.mem_cons_of_mem _ hx))
    have hl := List.length_erase_of_mem hm
    have : 0 < m.length := List.length_pos_of_mem hm
    rw [List.length_cons]
    omega
theorem sorted_eq {l m : List Int} (h : l.Perm m) (hl : l.Pairwise (· ≤ ·)) (hm : m.Pairwise (· ≤ ·)) : l = m :=
  List.Perm.eq_of_pairwise (fun a b _ _ h1 h2 => Int.le_antisymm h1 h2) hl hm h
theorem perm_of {l m : List Int} (h1 : l.Nodup) (h2 : m.Nodup) (h : ∀ n, n ∈ l ↔ n ∈ m) : l.Perm m := (List.perm_ext_iff_of_nodup h1 h2).mpr h

section
variable {P : Program} {w : World} {K : PySem.W.Frag} {mg : Str → Option Value} {base : Heap}
theorem firstAt {l : List Int} {n : Int} (h : n ∈ l) : ∃ j : Nat, l[j]? = some n ∧ ∀ (m : Nat) (z : Int), m < j → l[m]? = some z → z ≠ n := by
  induction l with
  | nil => simp at h
  | cons a r ih =>
    by_cases e : a = n
    · exact ⟨0, by rw [e]; rfl, fun m z hm => by omega⟩
    · obtain ⟨j, h1, h2⟩ := ih ((List.mem_cons.mp h).resolve_left fun z => e z.symm)
      refine ⟨j + 1, h1, fun m z hm hz => ?_⟩
      cases m with
      | zero => cases hz; exact e
      | succ m => exact h2 m z (by omega) hz
theorem flat_ints (l : List Int) : (l.map V.int).all flatV = true := by rw [List.all_map]; exact List.all_eq_true.mpr fun _ _ => rfl
theorem in_ints (n : Int) (l : List Int) : inV (.int n) (l.map V.int) = decide (n ∈ l) := by
  unfold inV
  rw [List.any_map]
  induction l with
  | nil => simp
  | cons a r ih =>
    rw [List.any_cons, ih]
    show ((a == n) || _) = _
    by_cases e : a = n
    · subst e; simp
    · have e' : ¬ n = a := fun z => e z.symm
      simp [e, e']
end
def lvF : Nat → List Ob → List (Ob × Nat)
  | _, [] => []
  | p, a :: r => if a.live = true then (a, p) :: lvF (p + (fl a).length) r else lvF (p + (fl a).length) r
theorem lvF_cons (p : Nat) (a : Ob) (r : List Ob) : lvF p (a :: r) = if a.live = true then (a, p) :: lvF (p + (fl a).length) r else lvF (p + (fl a).length) r := rfl
theorem lvF_ob : ∀ (p : Nat) (O : List Ob), (lvF p O).map (·.1) = O.filter (·.live)
  | _, [] => rfl
  | p, a :: r => by
    have ih := lvF_ob (p + (fl a).length) r
    rw [lvF_cons]
    by_cases h : a.live = true
    · rw [if_pos h, List.map_cons, ih, List.filter_cons_of_pos (by exact h)]
    · rw [if_neg h, ih, List.filter_cons_of_neg (by exact h)]
theorem off_cons (a : Ob) (r : List Ob) (i : Nat) : off (a :: r) (i + 1) = (fl a).length + off r i := by
  unfold off
  rw [List.take_succ_cons, flat_cons, List.length_append]
theorem lvF_mem : ∀ (p : Nat) (O : List Ob) (z : Ob × Nat), z ∈ lvF p O ↔ ∃ i : Nat, O[i]? = some z.1 ∧ z.1.live = true ∧ z.2 = p + off O i
  | p, [], z => by simp [lvF]
  | p, a :: r, z => by
    have ih := lvF_mem (p + (fl a).length) r z
    have tail : (∃ i : Nat, r[i]? = some z.1 ∧ z.1.live = true ∧ z.2 = p + (fl a).length + off r i) ↔ ∃ i : Nat, (a :: r)[i + 1]? = some z.1 ∧ z.1.live = true ∧ z.2 = p + off (a :: r) (i + 1) := by
      constructor
      · rintro ⟨i, h1, h2, h3⟩
        exact ⟨i, h1, h2, by rw [off_cons, h3]; omega⟩
      · rintro ⟨i, h1, h2, h3⟩
        exact ⟨i, h1, h2, by rw [h3, off_cons]; omega⟩
    have all : (∃ i : Nat, (a :: r)[i]? = some z.1 ∧ z.1.live = true ∧ z.2 = p + off (a :: r) i) ↔ (a = z.1 ∧ z.1.live = true ∧ z.2 = p) ∨ ∃ i : Nat, (a :: r)[i + 1]? = some z.1 ∧ z.1.live = true ∧ z.2 = p + off (a :: r) (i + 1) := by
      constructor
      · rintro ⟨i, h1, h2, h3⟩
        cases i with
        | zero => exact Or.inl ⟨Option.some.inj h1, h2, by rw [h3]; rfl⟩
        | succ i => exact Or.inr ⟨i, h1, h2, h3⟩
      · rintro (⟨h1, h2, h3⟩ | ⟨i, h1, h2, h3⟩)
        · exact ⟨0, congrArg some h1, h2, by rw [h3]; rfl⟩
        · exact ⟨i + 1, h1, h2, h3⟩
    rw [all, ← tail, ← ih]
    rw [lvF_cons]
    by_cases h : a.live = true
    · rw [if_pos h, List.mem_cons]
      constructor
      · rintro (e | e)
        · subst e; exact Or.inl ⟨rfl, h, rfl⟩
        · exact Or.inr e
      · rintro (⟨h1, h2, h3⟩ | e)
        · left
          obtain ⟨z1, z2⟩ := z
          have h1 : a = z1 := h1
          have h3 : z2 = p := h3
          rw [h1, h3]
        · exact Or.inr e
    · rw [if_neg h]
      constructor
      · exact Or.inr
      · rintro (⟨h1, h2, h3⟩ | e)
        · rw [h1] at h; exact absurd h2 h
        · exact e
theorem lvF_lt : ∀ (p : Nat) (O : List Ob), (lvF p O).Pairwise (fun x y => x.2 < y.2) ∧ ∀ z ∈ lvF p O, p ≤ z.2
  | _, [] => ⟨List.Pairwise.nil, fun z h => by simp [lvF] at h⟩
  | p, a :: r => by
    obtain ⟨h1, h2⟩ := lvF_lt (p + (fl a).length) r
    have hl := fl_len a
    rw [lvF_cons]
    by_cases h : a.live = true
    · rw [if_pos h]
      refine ⟨List.pairwise_cons.mpr ⟨fun z hz => ?_, h1⟩, fun z hz => ?_⟩
      · have := h2 z hz
        show p < z.2
        omega
      · rcases List.mem_cons.mp hz with e | hz
        · rw [e]; exact Nat.le_refl _
        · have := h2 z hz
          omega
    · rw [if_neg h]
      exact ⟨h1, fun z hz => by have := h2 z hz; omega⟩
theorem lvF_app : ∀ (p : Nat) (A B : List Ob), lvF p (A ++ B) = lvF p A ++ lvF (p + (flat A).length) B
  | p, [], B => by simp [lvF, flat]
  | p, a :: r, B => by
    have ih := lvF_app (p + (fl a).length) r B
    rw [List.cons_append, lvF_cons, lvF_cons, ih, flat_cons, List.length_append, Nat.add_assoc]
    split <;> rfl
def tbl (O : List Ob) : List (Int × Int) := (lvF 0 O).map fun z => (z.1.num, (z.2 : Int))
theorem tbl_fst (O : List Ob) : (tbl O).map (·.1) = (O.filter (·.live)).map (·.num) := by
  unfold tbl
  rw [← lvF_ob 0 O, List.map_map, List.map_map]; rfl
theorem tbl_mem (O : List Ob) (n p : Int) : (n, p) ∈ tbl O ↔ ∃ (i : Nat) (o : Ob), O[i]? = some o ∧ o.live = true ∧ n = o.num ∧ p = (off O i : Nat) := by
  unfold tbl
  constructor
  · intro h
    obtain ⟨z, hz, e⟩ := List.mem_map.mp h
    obtain ⟨i, h1, h2, h3⟩ := (lvF_mem 0 O z).mp hz
    cases e
    exact ⟨i, z.1, h1, h2, rfl, by rw [h3, Nat.zero_add]⟩
  · rintro ⟨i, o, h1, h2, rfl, rfl⟩
    exact List.mem_map.mpr ⟨(o, off O i), (lvF_mem 0 O _).mpr ⟨i, h1, h2, by rw [Nat.zero_add]⟩, rfl⟩
theorem tbl_lt (O : List Ob) : (tbl O).Pairwise (fun x y => x.2 < y.2) := by
  unfold tbl
  exact List.pairwise_map.mpr ((lvF_lt 0 O).1.imp fun h => by show ((_ : Nat) : Int) < ((_ : Nat) : Int); omega)
theorem tbl_snoc (A : List Ob) (a : Ob) (h : a.live = true) : tbl (A ++ [a]) = tbl A ++ [(a.num, ((flat A).length : Int))] := by
  unfold tbl
  rw [lvF_app, List.map_append]
  congr 1
  show (lvF (0 + (flat A).length) [a]).map _ = _
  rw [lvF_cons, if_pos h, Nat.zero_add]
  rfl
theorem pw_inj {l : List (Int × Int)} (h : l.Pairwise (fun x y => x.2 < y.2)) {a b : Int × Int} (ha : a ∈ l) (hb : b ∈ l) (e : a.2 = b.2) : a = b := by
  induction l with
  | nil => simp at ha
  | cons x r ih =>
    obtain ⟨h1, h2⟩ := List.pairwise_cons.mp h
    rcases List.mem_cons.mp ha with ea | ea <;> rcases List.mem_cons.mp hb with eb | eb
    · rw [ea, eb]
    · have := h1 b eb; rw [← ea] at this; omega
    · have := h1 a ea; rw [← eb] at this; omega
    · exact ih h2 ea eb
theorem by_place {O : List Ob} {ys : List (Int × Int)} (h : ys.Perm (tbl O)) (hp : ys.Pairwise (fun x y => x.2 ≤ y.2)) : ys = tbl O :=
  List.Perm.eq_of_pairwise (le := fun x y : Int × Int => x.2 ≤ y.2) (fun a b ha hb h1 h2 => pw_inj (tbl_lt O) (h.mem_iff.mp ha) hb (by omega)) hp ((tbl_lt O).imp fun h => by omega) h
theorem mem_valV {κ : Type} [DecidableEq κ] {kvs : List (κ × V)} {k : κ} {v : V} (nd : (kvs.map (·.1)).Nodup) (h : (k, v) ∈ kvs) : valV kvs k = some v := by
  induction kvs with
  | nil => simp at h
  | cons p r ih =>
    obtain ⟨h1, h2⟩ := List.nodup_cons.mp nd
    rcases List.mem_cons.mp h with e | e
    · subst e; exact valV_pos rfl
    · rw [valV_neg (fun z => h1 (by show p.1 ∈ _; rw [z]; exact List.mem_map.mpr ⟨_, e, rfl⟩))]
      exact ih h2 e
theorem pD_of {l : List (Key × V)} (h : ∀ p ∈ l, ∃ n i : Int, p = (.inl n, .int i)) : ∃ ps, l = pD ps := by
  induction l with
  | nil => exact ⟨[], rfl⟩
  | cons a r ih =>
    obtain ⟨n, i, e⟩ := h a List.mem_cons_self
    obtain ⟨ps, e2⟩ := ih fun p hp => h p (List.mem_cons_of_mem _ hp)
    exact ⟨(n, i) :: ps, by rw [e, e2]; rfl⟩
theorem pD_keys (ps : List (Int × Int)) : (pD ps).map (·.1) = (ps.map (·.1)).map Sum.inl := by unfold pD; rw [List.map_map, List.map_map]; rfl
theorem pD_nd {ps : List (Int × Int)} : ((pD ps).map (·.1)).Nodup ↔ (ps.map (·.1)).Nodup := by
  rw [pD_keys]
  constructor
  · exact fun h => (List.pairwise_map.mp h).imp fun h e => h (by rw [e])
  · exact fun h => List.pairwise_map.mpr (h.imp fun h e => h (Sum.inl.inj e))
theorem pD_iff {ps : List (Int × Int)} (nd : (ps.map (·.1)).Nodup) (k : Key) (v : V) : valV (pD ps) k = some v ↔ ∃ n i : Int, (n, i) ∈ ps ∧ k = .inl n ∧ v = .int i := by
  constructor
  · intro h
    obtain ⟨p, hp, e⟩ := List.mem_map.mp (show (k, v) ∈ ps.map _ from val_mem h)
    cases e
    exact ⟨p.1, p.2, hp, rfl, rfl⟩
  · rintro ⟨n, i, h, rfl, rfl⟩
    exact pD_val nd h
theorem Good.pairs {O : List Ob} {kvs : List (Key × V)} {least : Int} (G : Good O kvs least) : ∃ ps, kvs = pD ps ∧ (ps.map (·.1)).Nodup ∧ ps.Perm (tbl O) := by
  obtain ⟨ps, rfl⟩ := pD_of (l := kvs) fun p hp => by
    obtain ⟨i, o, h1, h2, h3, h4⟩ := (G.val p.1 p.2).mp (mem_valV G.nd hp)
    exact ⟨o.num, (off O i : Nat), by rw [← h3, ← h4]⟩
  have nd := pD_nd.mp G.nd
  refine ⟨ps, rfl, nd, ?_⟩
  have n1 : ps.Nodup := (List.pairwise_map.mp nd).imp fun h e => h (by rw [e])
  have n2 : (tbl O).Nodup := (tbl_lt O).imp fun h e => by rw [e] at h; omega
  refine (List.perm_ext_iff_of_nodup n1 n2).mpr fun z => ?_
  obtain ⟨n, p⟩ := z
  rw [tbl_mem]
  constructor
  · intro h
    obtain ⟨i, o, h1, h2, h3, h4⟩ := (G.val _ _).mp (pD_val nd h)
    exact ⟨i, o, h1, h2, Sum.inl.inj h3, V.int.inj h4⟩
  · rintro ⟨i, o, h1, h2, rfl, rfl⟩
    obtain ⟨n, i, h, e1, e2⟩ := (pD_iff nd _ _).mp (G.at h1 h2)
    cases e1
    cases e2
    exact h
theorem Good.nums {O : List Ob} {kvs : List (Key × V)} {least : Int} (G : Good O kvs least) : ((O.filter (·.live)).map (·.num)).Nodup := by
  obtain ⟨ms, m1, m2⟩ := G.ints
  have ndm : ms.Nodup := by
    have := G.nd
    rw [m1] at this
    exact (List.pairwise_map.mp this).imp fun h e => h (by rw [e])
  exact m2.nodup_iff.mp ndm
theorem all_live {O : List Ob} : ∀ o ∈ O.filter (·.live), o.live = true := fun o ho => (List.mem_filter.mp ho).2
theorem Good.close {O : List Ob} {kvs : List (Key × V)} {least : Int} (G : Good O kvs least) : Good (O.filter (·.live)) (pD (tbl (O.filter (·.live)))) least := by
  have e1 : (tbl (O.filter (·.live))).map (·.1) = (O.filter (·.live)).map (·.num) := by rw [tbl_fst, List.filter_filter]; simp
  have nd : ((tbl (O.filter (·.live))).map (·.1)).Nodup := by rw [e1]; exact G.nums
  refine ⟨fun k v => ?_, pD_nd.mpr nd, fun i j o p hi hj _ _ e => ?_, G.seen.1, fun n h0 h1 => ?_⟩
  · rw [pD_iff nd]
    constructor
    · rintro ⟨n, i, h, rfl, rfl⟩
      obtain ⟨j, o, h1, h2, rfl, rfl⟩ := (tbl_mem _ _ _).mp h
      exact ⟨j, o, h1, h2, rfl, rfl⟩
    · rintro ⟨j, o, h1, h2, rfl, rfl⟩
      exact ⟨_, _, (tbl_mem _ _ _).mpr ⟨j, o, h1, h2, rfl, rfl⟩, rfl, rfl⟩
  · have hl := (List.getElem?_eq_some_iff.mp hi).1
    refine (List.getElem?_inj (l := (O.filter (·.live)).map (·.num)) (by rw [List.length_map]; exact hl) G.nums).mp ?_
    rw [List.getElem?_map, List.getElem?_map, hi, hj, Option.map_some, Option.map_some, e]
  · have := G.seen.2 n h0 h1
    obtain ⟨i, o, h2, h3, rfl⟩ := (G.iff n).mp this
    have hm : o ∈ O.filter (·.live) := List.mem_filter.mpr ⟨List.mem_of_getElem? h2, h3⟩
    obtain ⟨j, hj⟩ := List.getElem?_of_mem hm
    rw [(pD_iff nd _ _).mpr ⟨o.num, _, (tbl_mem _ _ _).mpr ⟨j, o, hj, h3, rfl, rfl⟩, rfl, rfl⟩]
    rfl
/-- one is dropped -/
theorem kill_filter {O : List Ob} {kvs : List (Key × V)} {least : Int} (G : Good O kvs least) {i : Nat} {o : Ob} (h : O[i]? = some o) (ho : o.live = true) : (O.set i { o with live := false }).filter (·.live) = (O.filter (·.live)).filter fun p => !decide (p.num = o.num) := by
  have hi := (List.getElem?_eq_some_iff.mp h).1
  have e : O = O.take i ++ o :: O.drop (i + 1) := split_at h
  rw [List.set_eq_take_append_cons_drop, if_pos hi]
  have key : ∀ j p, O[j]? = some p → j ≠ i → p.live = true → ¬ p.num = o.num := fun j p hj ne lp en => ne (G.un j i p o hj h lp ho en)
  have k1 : (O.take i).filter (·.live) = ((O.take i).filter (·.live)).filter fun p => !decide (p.num = o.num) := by
    refine (List.filter_eq_self.mpr fun p hp => ?_).symm
    obtain ⟨h1, h2⟩ := List.mem_filter.mp hp
    obtain ⟨j, hj⟩ := List.getElem?_of_mem h1
    rw [List.getElem?_take] at hj
    split at hj
    · simp [key j p hj (by omega) h2]
    · cases hj
  have k2 : (O.drop (i + 1)).filter (·.live) = ((O.drop (i + 1)).filter (·.live)).filter fun p => !decide (p.num = o.num) := by
    refine (List.filter_eq_self.mpr fun p hp => ?_).symm
    obtain ⟨h1, h2⟩ := List.mem_filter.mp hp
    obtain ⟨j, hj⟩ := List.getElem?_of_mem h1
    rw [List.getElem?_drop] at hj
    simp [key _ p hj (by omega) h2]
  conv => rhs; rw [e]
  rw [List.filter_append, List.filter_append, List.filter_append, List.filter_cons_of_neg (by simp), List.filter_cons_of_pos (by exact ho), List.filter_cons_of_neg (by simp), ← k1, ← k2]


end LX
namespace LX
open PySem PySem.Spec PyProof.Rows L2 NdefX
/-- every old thing outside of F is kept, but for tables -/
def FrN (F : List Addr) (H H' : Hp) : Prop := ∀ b o, H b = some o → b ∉ F → (∀ ps, o ≠ .tbl ps) → H' b = some o
theorem Fr.n {F : List Addr} {H H' : Hp} (f : Fr F H H') : FrN F H H' := fun b o e n _ => f b o e n
theorem FrN.trans {F : List Addr} {H H1 H2 : Hp} (a : FrN F H H1) (b : FrN F H1 H2) : FrN F H H2 := fun c o e n t => b c o (a c o e n t) n t
theorem FrN.mono {F G : List Addr} {H H' : Hp} (a : FrN F H H') (h : ∀ b, b ∈ F → b ∈ G) : FrN G H H' := fun c o e n t => a c o e (fun m => n (h c m)) t
theorem FrN.lst {F : List Addr} {H H' : Hp} (a : FrN F H H') {b : Addr} {xs : List V} (e : H b = some (.lst xs)) (n : b ∉ F) : H' b = some (.lst xs) := a b _ e n (by intro ps z; cases z)
theorem tab_out {F : List Addr} {H H' : Hp} {P : Addr} {q : Str} (t : LamX.TabS H P q) (f : Fr F H H') (hF : ∀ b ∈ F, ∃ o, H b = some o ∧ (∀ ps, o ≠ .tbl ps) ∧ (∀ φ, o ≠ .ext φ)) : LamX.TabS H' P q := by
  obtain ⟨ps, h1, h2, h3⟩ := t
  refine ⟨ps, f _ _ h1 fun hm => ?_, h2, fun pos cv hc => ?_⟩
  · obtain ⟨o, e, n, _⟩ := hF _ hm
    rw [h1] at e
    exact n ps (Option.some.inj e).symm
  · obtain ⟨c, e1, e2⟩ := h3 pos cv hc
    refine ⟨c, e1, f _ _ e2 fun hm => ?_⟩
    obtain ⟨o, e, _, n⟩ := hF _ hm
    rw [e2] at e
    exact n _ (Option.some.inj e).symm
theorem StoreAt.keepN {H H' : Hp} {C st dx wl pl : Addr} {room entries least : Int} {ws : List Int} {kvs : List (Key × V)} (S : StoreAt H C st dx wl pl room entries least ws kvs) (f : LamX.ExtN H H') : StoreAt H' C st dx wl pl room entries least ws kvs :=
  ⟨f _ _ S.st (by intro ps z; cases z), f _ _ S.wl (by intro ps z; cases z), f _ _ S.pl (by intro ps z; cases z)⟩
section
variable {P : Program} {w : World} {K : PySem.W.Frag} {mg : Str → Option Value} {base : Heap}
theorem seg_fl {O : List Ob} {i : Nat} {o : Ob} (h : O[i]? = some o) : seg (flat O) (off O i) (3 + o.sl.length) = fl o := by
  unfold seg
  rw [flat_split h]
  unfold off
  rw [List.drop_left, ← fl_len, List.take_left]
def sp_close (C PT : Addr) : Sp := fun vs H Q _ => ∃ st dx wl pl room entries least kvs O, vs = [.ref st] ∧ StoreAt H C st dx wl pl room entries least (flat O) kvs ∧ Good O kvs least ∧ (flat O).length ≤ 100000 ∧ O.length ≤ 1000 ∧ LamX.TabS H PT qLam ∧
  ∀ H' wl' pl', StoreAt H' C st dx wl' pl' room entries least (flat (O.filter (·.live))) (pD (tbl (O.filter (·.live)))) → LamX.TabS H' PT qLam → FrN [st] H H' → H wl' = none → H pl' = none → Q .non H'
theorem ok_Store_close_up (W : WT P K mg base) : FnOk P w K mg base CX0 1 W.f_Store_close_up W.fd_Store_close_up ["self"] (sp_close W.c_Store W.PT_Store_close_up) := by
  refine W.G_Store_close_up.ok sc_Store_close_up (fun vs H Q E h => ?_) (fun A outer s H vs Q E hr h => ?_)
  · obtain ⟨st, dx, wl, pl, room, entries, least, kvs, O, rfl, _⟩ := h
    rfl
  · obtain ⟨st, dx, wl, pl, room, entries, least, kvs, O, rfl, S, G, hfl, hO, hT, k⟩ := h
    have hu1 := hu_of hr
    have hu64 := hu64_of hr
    refine ⟨_, (pss_cons (ps_set (i := 1) sc_Store_close_up.nd rfl (by first | exact Or.inl rfl | exact Or.inr rfl) (pe_lst pa_nil))
      (pss_cons (ps_set (i := 2) sc_Store_close_up.nd rfl (by first | exact Or.inl rfl | exact Or.inr rfl) pe_dnewK)
      (pss_cons (ps_set (i := 3) sc_Store_close_up.nd rfl (by first | exact Or.inl rfl | exact Or.inr rfl) (pe_fld (pv 0) rfl))
      (pss_cons (ps_for PassesOwn.never rfl (pi_list (pe_sortKeyLam (T := [(W.PT_Store_close_up, qLam)]) (c := W.cA_Store_close_up) (P := W.PT_Store_close_up) (i := 3) (x := "old") (y := "number") rfl hr rfl W.n_sorted rfl rfl W.TB rfl (List.mem_singleton.mpr rfl) (fun p hp _ => by cases List.mem_singleton.mp hp; rfl) rfl rfl rfl rfl (by decide +kernel) rfl rfl (by intro z hz e; rcases List.mem_cons.mp hz with h | h; (subst h; cases e); (cases List.mem_singleton.mp h; exact Or.inl rfl)) (fun _ _ _ _ _ _ => rfl) (by decide) (by decide) (by decide))) (pg_name (i := 4) sc_Store_close_up.nd rfl (by first | exact Or.inl rfl | exact Or.inr rfl)) (pss_cons (ps_set (i := 5) sc_Store_close_up.nd rfl (by first | exact Or.inl rfl | exact Or.inr rfl) (pe_ix (ix_U hu1) (pv 3) (pv 4) (fun _ _ => rfl)))
      (pss_cons (ps_dput hu1 (pv 2) (pv 4) (pe_callB call_lenU (by rfl) W.n_len bb_len (pa_cons (pv 1) pa_nil)) rfl)
      (pss_one (ps_expr (pe_bm PySem.F.plainAttrs_list PySem.F.slot_list_extend PySem.F.type_list_extend mt_extend (pv 1) (pa_cons (pe_slice sl_U (pe_fld (pv 0) rfl) (po_some (pv 5)) (po_some (pe_op op_addU (pe_op op_addU (pv 5) (pe_gi rfl W.g_HEADER)) (pe_ix (ix_U hu1) (pe_fld (pv 0) rfl) (pe_op op_addU (pv 5) pe_int) (fun _ _ => rfl))))) pa_nil)))))))
      (pss_cons (ps_fld (pv 0) (pv 1) rfl)
      (pss_one (ps_fld (pv 0) (pv 2) rfl))))))), ?_⟩
    refine ⟨(by show 0 ≤ sizeLine; decide), fun wn hwn => ?_⟩
    have f1 : Fr [] H (upd H wn (.lst [])) := Fr.new hwn
    have hw1 : upd H wn (.lst []) wn = some (.lst []) := upd_same
    generalize upd H wn (.lst []) = H1 at f1 hw1
    refine fun pn hpn => ?_
    have f2 : Fr [] H1 (upd H1 pn (.dK [])) := Fr.new hpn
    have hp2 : upd H1 pn (.dK []) pn = some (.dK []) := upd_same
    have hw2 := f2 _ _ hw1 (by simp)
    have nwp : wn ≠ pn := ne_of_none hw1 hpn
    have hpn0 : H pn = none := by
      cases e : H pn with
      | none => rfl
      | some o => rw [f1 _ _ e (by simp)] at hpn; cases hpn
    have f2 := f1.trans f2
    show gName 2 (V.ref pn) _ (upd H1 pn (.dK [])) _
    generalize upd H1 pn (.dK []) = H2 at f2 hp2 hw2
    have S2 := S.keep f2 (by simp)
    refine ⟨_, rfl, st, _, dx, _, _, rfl, S2.st, W.C_Store, W.na_Store__places, rfl, ?_⟩
    obtain ⟨ps, ek, nd, pm⟩ := G.pairs
    subst ek
    have T2 : LamX.TabS H2 W.PT_Store_close_up qLam := hT.ext fun b o e => f2 b o e (by simp)
    refine ⟨pl, ps, rfl, S2.pl, nd, (fun p hp => by cases List.mem_singleton.mp hp; exact T2), fun H3 eN T3 ys q py py2 hq => ?_⟩
    have T3 := T3 _ (List.mem_singleton.mpr rfl)
    have ey : ys = tbl O := by_place (py.trans pm) py2
    subst ey
    have S3 := S2.keepN eN
    have hw3 := eN _ _ hw2 (by intro ps z; cases z)
    have hp3 := eN _ _ hp2 (by intro ps z; cases z)
    have f3 : FrN [] H H3 := fun b o e n t => eN _ _ (f2 b o e n) t
    have f4 : Fr [] H3 (upd H3 q (.lst (((tbl O).map (·.1)).map V.int))) := Fr.new hq
    have hq4 : upd H3 q (.lst (((tbl O).map (·.1)).map V.int)) q = some (.lst (((tbl O).map (·.1)).map V.int)) := upd_same
    have T4 := T3.ext fun b o e => f4 b o e (by simp)
    have S4 := S3.keep f4 (by simp)
    have hw4 := f4 _ _ hw3 (by simp)
    have hp4 := f4 _ _ hp3 (by simp)
    have nqw : q ≠ wn := (ne_of_none hw3 hq).symm
    have f4 := f3.trans f4.n
    generalize upd H3 q (.lst (((tbl O).map (·.1)).map V.int)) = H4 at hq4 T4 S4 hw4 hp4 f4
    have lenT : (tbl O).length = (O.filter (·.live)).length := by
      have := congrArg List.length (tbl_fst O)
      rw [List.length_map, List.length_map] at this
      exact this
    have lenL := List.length_filter_le (fun o : Ob => o.live) O
    have wlw : wl ≠ wn := ne_of_none S.wl hwn
    have plp : pl ≠ pn := ne_of_none S.pl hpn0
    have stw : st ≠ wn := ne_of_none S.st hwn
    have stp : st ≠ pn := ne_of_none S.st hpn0
    refine ⟨q, rfl, ⟨_, SqL.of hq4⟩, ?_⟩
    refine for_list (K := K) (a := q) (xs := ((tbl O).map (·.1)).map V.int) (fun j σ H' => ∃ (v4 v5 : Option V), σ = [some (.ref st), some (.ref wn), some (.ref pn), some (.ref pl), v4, v5] ∧ H' q = some (.lst (((tbl O).map (·.1)).map V.int)) ∧ LamX.TabS H' W.PT_Store_close_up qLam ∧ StoreAt H' W.c_Store st dx wl pl room entries least (flat O) (pD ps) ∧ H' wn = some (.lst ((flat ((O.filter (·.live)).take j)).map V.int)) ∧ H' pn = some (.dK (pD (tbl ((O.filter (·.live)).take j)))) ∧ FrN [] H H')
      ⟨_, _, rfl, hq4, T4, S4, hw4, hp4, f4⟩ (fun j σ H5 _ hI => ?_) (fun j x σ H5 hx hI => ?_) (fun σ H5 hI => ?_)
    · obtain ⟨v4, v5, rfl, a1, _⟩ := hI
      exact SqL.of a1
    · obtain ⟨v4, v5, rfl, a1, a2, a3, a4, a5, a6⟩ := hI
      rw [List.map_map, List.getElem?_map] at hx
      obtain ⟨z, hz, rfl⟩ := Option.map_eq_some_iff.mp hx
      obtain ⟨n, pp⟩ := z
      obtain ⟨i, o, ho, hl, rfl, rfl⟩ := (tbl_mem O n pp).mp (List.mem_of_getElem? hz)
      have hoj : (O.filter (·.live))[j]? = some o := by
        have e1 : ((tbl O).map (·.1))[j]? = some o.num := by rw [List.getElem?_map, hz]; rfl
        rw [tbl_fst, List.getElem?_map] at e1
        obtain ⟨o2, h1, h2⟩ := Option.map_eq_some_iff.mp e1
        have m2 := List.mem_filter.mp (List.mem_of_getElem? h1)
        obtain ⟨i2, hi2⟩ := List.getElem?_of_mem m2.1
        have := G.un i2 i o2 o hi2 ho m2.2 hl h2
        subst this
        rw [ho] at hi2
        rw [h1, hi2]
      have hjlt : j < (O.filter (·.live)).length := (List.getElem?_eq_some_iff.mp hoj).1
      have htk : (O.filter (·.live)).take (j + 1) = (O.filter (·.live)).take j ++ [o] := by rw [List.take_succ, hoj]; rfl
      have hlen2 : (flat ((O.filter (·.live)).take j)).length + (fl o).length ≤ 200000 := by
        have h1 := off_lt hoj
        unfold off at h1
        have h2 : (flat (O.filter (·.live))).length ≤ (flat O).length := by
          have : ∀ l : List Ob, (flat (l.filter (·.live))).length ≤ (flat l).length := by
            intro l
            induction l with
            | nil => exact Nat.le_refl _
            | cons a r ih =>
              by_cases q : a.live = true
              · rw [List.filter_cons_of_pos (by exact q), flat_cons, flat_cons, List.length_append, List.length_append]; omega
              · rw [List.filter_cons_of_neg (by exact q), flat_cons, List.length_append]; omega
          exact this O
        rw [fl_len]
        omega
      -- place = old[number]
      refine ⟨_, rfl, _, rfl, Or.inr ⟨.int (off O i : Nat), by rw [← G.at ho hl]; exact DGet.k (k := Sum.inl o.num) a3.pl, ?_⟩⟩
      -- places[number] = len(words)
      refine ⟨_, rfl, Or.inl ⟨_, Or.inl (SqL.of a4), ?_⟩⟩
      rw [List.length_map]
      refine ⟨_, rfl, _, rfl, pn, _, rfl, DPut.k (k := Sum.inl o.num) a5 (by
        unfold pD tbl
        have := congrArg List.length (lvF_ob 0 ((O.filter (·.live)).take j))
        rw [List.length_map] at this
        have h2 := List.length_filter_le (fun o : Ob => o.live) ((O.filter (·.live)).take j)
        rw [List.length_take] at h2
        rw [List.length_map, List.length_map, sizeLine_eq]
        omega), ?_⟩
      have hnew : valV (pD (tbl ((O.filter (·.live)).take j))) (.inl o.num) = none := by
        cases e : valV (pD (tbl ((O.filter (·.live)).take j))) (.inl o.num) with
        | none => rfl
        | some v =>
          exfalso
          obtain ⟨m, i2, h1, h2, h3⟩ : ∃ n i : Int, (n, i) ∈ tbl ((O.filter (·.live)).take j) ∧ (Sum.inl o.num : Key) = .inl n ∧ v = .int i := by
            obtain ⟨p, hp, e2⟩ := List.mem_map.mp (show ((Sum.inl o.num : Key), v) ∈ (tbl ((O.filter (·.live)).take j)).map _ from val_mem e)
            obtain ⟨e3, e4⟩ := Prod.mk.inj e2
            exact ⟨p.1, p.2, hp, e3.symm, e4.symm⟩
          cases h2
          obtain ⟨i3, o3, h4, h5, h6, _⟩ := (tbl_mem _ _ _).mp h1
          rw [List.getElem?_take] at h4
          split at h4
          · rename_i hlt
            have := (List.getElem?_inj (l := (O.filter (·.live)).map (·.num)) (i := i3) (j := j) (by rw [List.length_map]; omega) G.nums).mp (by rw [List.getElem?_map, List.getElem?_map, h4, hoj, Option.map_some, Option.map_some, h6])
            omega
          · cases h4
      have eput : putK (pD (tbl ((O.filter (·.live)).take j))) (.inl o.num) (.int ((flat ((O.filter (·.live)).take j)).length : Int)) = pD (tbl ((O.filter (·.live)).take (j + 1))) := by
        rw [putK_new _ hnew, htk, tbl_snoc _ _ hl]
        unfold pD
        rw [List.map_append]
        rfl
      rw [eput]
      have npw := nwp.symm
      have npl : pl ≠ pn := plp
      have b1 : upd H5 pn (.dK (pD (tbl ((O.filter (·.live)).take (j + 1))))) pn = some (.dK (pD (tbl ((O.filter (·.live)).take (j + 1))))) := upd_same
      have fb : Fr [pn] H5 (upd H5 pn (.dK (pD (tbl ((O.filter (·.live)).take (j + 1)))))) := Fr.at (by simp)
      have nqp : q ≠ pn := ne_of a1 a5 (by intro z; cases z)
      have c1 := fb _ _ a1 (by simpa using nqp)
      have c2 := tab_out a2 fb (fun b hb => by
        have e : b = pn := by simpa using hb
        rw [e]
        exact ⟨_, a5, (by intro ps z; cases z), (by intro ps z; cases z)⟩)
      have nwlp : wl ≠ pn := ne_of a3.wl a5 (by intro z; cases z)
      have c3 := a3.keep fb (fun b hb h => by
        have h : b = pn := by simpa using h
        simp only [List.mem_cons, List.not_mem_nil, or_false] at hb
        rcases hb with e | e | e
        · exact stp (e.symm.trans h)
        · exact nwlp (e.symm.trans h)
        · exact plp (e.symm.trans h))
      have c4 := fb _ _ a4 (by simpa using nwp)
      have c6 : FrN [] H (upd H5 pn (.dK (pD (tbl ((O.filter (·.live)).take (j + 1)))))) := fun b o e n t => by rw [upd_ne (ne_of_none e hpn0)]; exact a6 b o e n t
      generalize upd H5 pn (.dK (pD (tbl ((O.filter (·.live)).take (j + 1))))) = H6 at b1 c1 c2 c3 c4 c6
      -- words.extend(..)
      refine ⟨_, rfl, Or.inl ⟨rfl, _, SqL.of c4⟩, ?_⟩
      refine ⟨_, rfl, st, _, dx, _, _, rfl, c3.st, W.C_Store, W.na_Store_words, rfl, ?_⟩
      refine ⟨_, rfl, _, rfl, ?_⟩
      refine ⟨_, rfl, ?_⟩
      refine ⟨_, rfl, st, _, dx, _, _, rfl, c3.st, W.C_Store, W.na_Store_words, rfl, ?_⟩
      refine ⟨_, rfl, ?_⟩
      refine Or.inl ⟨_, _, _, rfl, Or.inl (SqL.of c3.wl), atI_nat (j := off O i + 1) (int_at (flat_size ho)), ?_⟩
      refine ⟨_, rfl, ?_⟩
      refine Or.inl ⟨wl, _, rfl, SqL.of c3.wl, fun l hl1 => ?_⟩
      have ecut : cutV ((flat O).map V.int) (some ((off O i : Nat) : Int)) (some (((off O i : Nat) : Int) + 3 + (o.sl.length : Int))) = (fl o).map V.int := by
        have h := cut_seg (ws := flat O) (p := off O i) (n := 3 + o.sl.length) (by have := off_lt ho; omega)
        rw [seg_fl ho] at h
        rw [← h]
        congr 2
        omega
      rw [ecut]
      have nwl : wn ≠ l := ne_of_none c4 hl1
      have g7 : Fr [] H6 (upd H6 l (.lst ((fl o).map V.int))) := Fr.new hl1
      have hl7 : upd H6 l (.lst ((fl o).map V.int)) l = some (.lst ((fl o).map V.int)) := upd_same
      generalize upd H6 l (.lst ((fl o).map V.int)) = H7 at g7 hl7
      have c1 := g7 _ _ c1 (by simp)
      have c2 := c2.ext fun b o e => g7 b o e (by simp)
      have c3 := c3.keep g7 (by simp)
      have c4 := g7 _ _ c4 (by simp)
      have b1 := g7 _ _ b1 (by simp)
      have c6 := c6.trans g7.n
      refine ⟨wn, l, _, _, rfl, rfl, c4, hl7, by rw [List.length_map, List.length_map, sizeLine_eq]; omega, ?_⟩
      have ecat : (flat ((O.filter (·.live)).take j)).map V.int ++ (fl o).map V.int = (flat ((O.filter (·.live)).take (j + 1))).map V.int := by
        rw [htk, flat_app, ← List.map_append]
        congr 2
        show fl o = fl o ++ []
        rw [List.append_nil]
      rw [ecat]
      have fd : Fr [wn] H7 (upd H7 wn (.lst ((flat ((O.filter (·.live)).take (j + 1))).map V.int))) := Fr.at (by simp)
      refine ⟨_, _, rfl, fd _ _ c1 (by simpa using nqw), tab_out c2 fd (fun b hb => by
        have e : b = wn := by simpa using hb
        rw [e]
        exact ⟨_, c4, (by intro ps z; cases z), (by intro ps z; cases z)⟩), c3.keep fd (fun b hb h => by
        have h : b = wn := by simpa using h
        simp only [List.mem_cons, List.not_mem_nil, or_false] at hb
        rcases hb with e | e | e
        · exact stw (e.symm.trans h)
        · exact wlw (e.symm.trans h)
        · exact (ne_of c3.pl c4 (by intro z; cases z)) (e.symm.trans h)), upd_same, fd _ _ b1 (by simpa using nwp.symm), fun b o e n t => by rw [upd_ne (ne_of_none e hwn)]; exact c6 b o e n t⟩
    · obtain ⟨v4, v5, rfl, a1, a2, a3, a4, a5, a6⟩ := hI
      have elen : ((((tbl O).map (·.1)).map V.int)).length = (O.filter (·.live)).length := by rw [List.length_map, List.length_map, lenT]
      rw [elen, List.take_length] at a4 a5
      refine ⟨_, rfl, _, rfl, st, _, dx, _, rfl, a3.st, W.C_Store, W.na_Store_words, (by show 5 < 1000; decide), ?_⟩
      refine ⟨_, rfl, _, rfl, st, _, dx, _, rfl, upd_same, W.C_Store, W.na_Store__places, (by show 5 < 1000; decide), ?_⟩
      rw [upd_upd]
      have fd : Fr [st] H5 (upd H5 st (.ins W.c_Store dx (sF room entries wn pn least))) := Fr.at (by simp)
      refine k _ wn pn ⟨upd_same, fd _ _ a4 (by simpa using stw.symm), fd _ _ a5 (by simpa using stp.symm)⟩ (tab_out a2 fd (fun b hb => by
        have e : b = st := by simpa using hb
        rw [e]
        exact ⟨_, a3.st, (by intro ps z; cases z), (by intro ps z; cases z)⟩)) ((a6.mono (by simp)).trans fd.n) hwn hpn0
end

end LX
namespace LX
open PySem PySem.Spec PyProof.Rows L2 NdefX
/-! ### the things by their numbers -/
def obs : Nat → List (Int × List Int) → List Ob
  | _, [] => []
  | i, t :: r => { num := (i : Int), kind := t.1, sl := t.2, live := true } :: obs (i + 1) r
theorem obs_get : ∀ (T : List (Int × List Int)) (i j : Nat), (obs i T)[j]? = (T[j]?).map fun t => { num := ((i + j : Nat) : Int), kind := t.1, sl := t.2, live := true }
  | [], i, j => by simp [obs]
  | t :: r, i, j => by
    cases j with
    | zero => rfl
    | succ j =>
      show (obs (i + 1) r)[j]? = _
      rw [obs_get r (i + 1) j]
      rw [List.getElem?_cons_succ, show i + 1 + j = i + (j + 1) by omega]
theorem obs_len : ∀ (T : List (Int × List Int)) (i : Nat), (obs i T).length = T.length
  | [], _ => rfl
  | t :: r, i => by show (obs (i + 1) r).length + 1 = r.length + 1; rw [obs_len r]
theorem obs_app : ∀ (T : List (Int × List Int)) (i : Nat) (t : Int × List Int), obs i (T ++ [t]) = obs i T ++ [{ num := ((i + T.length : Nat) : Int), kind := t.1, sl := t.2, live := true }]
  | [], i, t => rfl
  | s :: r, i, t => by
    show _ :: obs (i + 1) (r ++ [t]) = _
    rw [obs_app r (i + 1) t, List.length_cons, show i + 1 + r.length = i + (r.length + 1) by omega]
    rfl
structure ThAt (H : Hp) (tl : Addr) (A : List (Addr × Addr)) (T : List (Int × List Int)) : Prop where
  tl : H tl = some (.lst (A.map fun a => V.ref a.1))
  len : A.length = T.length
  it : ∀ (i : Nat) (a : Addr × Addr) (t : Int × List Int), A[i]? = some a → T[i]? = some t → H a.1 = some (.lst [.int t.1, .ref a.2]) ∧ H a.2 = some (.lst (t.2.map V.int))
theorem ThAt.keep {H H' : Hp} {tl : Addr} {A : List (Addr × Addr)} {T : List (Int × List Int)} {F : List Addr} (R : ThAt H tl A T) (f : Fr F H H') (h1 : tl ∉ F) (h2 : ∀ a ∈ A, a.1 ∉ F ∧ a.2 ∉ F) : ThAt H' tl A T :=
  ⟨f _ _ R.tl h1, R.len, fun i a o ha ho => ⟨f _ _ (R.it i a o ha ho).1 (h2 a (List.mem_of_getElem? ha)).1, f _ _ (R.it i a o ha ho).2 (h2 a (List.mem_of_getElem? ha)).2⟩⟩
theorem ThAt.mono {H H' : Hp} {tl : Addr} {A : List (Addr × Addr)} {T : List (Int × List Int)} (R : ThAt H tl A T) (f : Fr [] H H') : ThAt H' tl A T := R.keep f (by simp) (by simp)
theorem ThAt.get {H : Hp} {tl : Addr} {A : List (Addr × Addr)} {T : List (Int × List Int)} (R : ThAt H tl A T) {i : Nat} {t : Int × List Int} (h : T[i]? = some t) : ∃ a, A[i]? = some a ∧ (A.map fun a => V.ref a.1)[i]? = some (.ref a.1) ∧ H a.1 = some (.lst [.int t.1, .ref a.2]) ∧ H a.2 = some (.lst (t.2.map V.int)) := by
  have hi := (List.getElem?_eq_some_iff.mp h).1
  have hA : i < A.length := by rw [R.len]; exact hi
  have e := List.getElem?_eq_getElem hA
  exact ⟨A[i], e, by rw [List.getElem?_map, e]; rfl, R.it i _ t e h⟩
/-- an item that stands in the heap -/
theorem ThAt.mem {H : Hp} {tl : Addr} {A : List (Addr × Addr)} {T : List (Int × List Int)} (R : ThAt H tl A T) {a : Addr × Addr} (h : a ∈ A) : (∃ t : Int × List Int, H a.1 = some (.lst [.int t.1, .ref a.2])) ∧ ∃ xs : List Int, H a.2 = some (.lst (xs.map V.int)) := by
  obtain ⟨i, hi⟩ := List.getElem?_of_mem h
  have hl : i < T.length := by rw [← R.len]; exact (List.getElem?_eq_some_iff.mp hi).1
  obtain ⟨t1, t2⟩ := R.it i a _ hi (List.getElem?_eq_getElem hl)
  exact ⟨⟨_, t1⟩, _, t2⟩
theorem obs_live {T : List (Int × List Int)} {n : Int} : Live (obs 0 T) n ↔ 0 ≤ n ∧ n < T.length := by
  constructor
  · rintro ⟨i, o, h1, h2, rfl⟩
    rw [obs_get] at h1
    obtain ⟨t, ht, rfl⟩ := Option.map_eq_some_iff.mp h1
    have := (List.getElem?_eq_some_iff.mp ht).1
    show 0 ≤ ((0 + i : Nat) : Int) ∧ ((0 + i : Nat) : Int) < _
    omega
  · rintro ⟨h0, h1⟩
    have hl : n.toNat < T.length := by omega
    refine ⟨n.toNat, _, by rw [obs_get, List.getElem?_eq_getElem hl]; rfl, rfl, ?_⟩
    show ((0 + n.toNat : Nat) : Int) = n
    omega
theorem flat_lenB {O : List Ob} {m : Nat} (h : ∀ o ∈ O, o.sl.length ≤ m) : (flat O).length ≤ (m + 3) * O.length := by
  induction O with
  | nil => exact Nat.zero_le _
  | cons o r ih =>
    have := ih fun x hx => h x (List.mem_cons_of_mem _ hx)
    have := h o List.mem_cons_self
    rw [flat_cons, List.length_append, fl_len, List.length_cons, Nat.mul_add]
    omega
theorem obs_mem {T : List (Int × List Int)} {i : Nat} {o : Ob} (h : o ∈ obs i T) : ∃ t ∈ T, o.sl = t.2 := by
  obtain ⟨j, hj⟩ := List.getElem?_of_mem h
  rw [obs_get] at hj
  obtain ⟨t, ht, rfl⟩ := Option.map_eq_some_iff.mp hj
  exact ⟨t, List.mem_of_getElem? ht, rfl⟩
section
variable {P : Program} {w : World} {K : PySem.W.Frag} {mg : Str → Option Value} {base : Heap}
/-- the store and the things -/
structure Law3 (C : Addr) (H : Hp) (st dx wl pl tl : Addr) (A : List (Addr × Addr)) (T : List (Int × List Int)) (kvs : List (Key × V)) (least : Int) : Prop where
  S : StoreAt H C st dx wl pl 100000 100000 least (flat (obs 0 T)) kvs
  G : Good (obs 0 T) kvs least
  R : ThAt H tl A T
  d1 : tl ∉ [st, wl, pl]
  d2 : ∀ a ∈ A, a.1 ∉ [st, wl, pl] ∧ a.2 ∉ [st, wl, pl]
  d3 : ∀ a ∈ A, a.1 ≠ tl ∧ a.2 ≠ tl
  sz : ∀ t ∈ T, t.2.length ≤ 69
def sp_built : Addr → Sp := fun C vs H Q _ => ∃ st dx wl pl x, vs = [.ref st, .int x] ∧ StoreAt H C st dx wl pl 100000 100000 0 [] [] ∧
  ∀ tl A T kvs least H', Law3 C H' st dx wl pl tl A T kvs least → 1 ≤ T.length → T.length ≤ 9 → Fr [st, wl, pl] H H' → H tl = none → (∀ a ∈ A, H a.1 = none ∧ H a.2 = none) → Q (.ref tl) H'
theorem Good.nil : Good [] [] 0 := ⟨fun k v => by simp [valV], List.nodup_nil, fun i j o o' h => by simp at h, ⟨Int.le_refl _, fun n h0 h1 => by omega⟩⟩
theorem not_mem3 {a st wl pl : Addr} (h1 : a ≠ st) (h2 : a ≠ wl) (h3 : a ≠ pl) : a ∉ [st, wl, pl] := by simp [h1, h2, h3]
theorem new3 {H : Hp} {C st dx wl pl q : Addr} {room entries least : Int} {ws : List Int} {kvs : List (Key × V)} (S : StoreAt H C st dx wl pl room entries least ws kvs) (hq : H q = none) : q ∉ [st, wl, pl] :=
  not_mem3 (ne_of_none S.st hq).symm (ne_of_none S.wl hq).symm (ne_of_none S.pl hq).symm
theorem ok__law_built (W : WT P K mg base) : FnOk P w K mg base CX0 3 W.f__law_built W.fd__law_built ["_law_store", "_law_x"] (sp_built W.c_Store) := by
  refine W.F__law_built.ok sc__law_built (fun vs H Q E h => ?_) (fun cdv Ar outer s H vs Q E hr h => ?_)
  · obtain ⟨st, dx, wl, pl, x, rfl, _⟩ := h
    rfl
  · obtain ⟨st, dx, wl, pl, x, rfl, S, k⟩ := h
    have hu1 := hu_of hr
    have hu64 := hu64_of hr
    refine ⟨_, (pss_cons (ps_set (i := 2) sc__law_built.nd rfl (by first | exact Or.inl rfl | exact Or.inr rfl) (pe_lst pa_nil))
      (pss_cons (ps_set (i := 3) sc__law_built.nd rfl (by first | exact Or.inl rfl | exact Or.inr rfl) (pe_op op_fdivW (pv 1) pe_int))
      (pss_cons (ps_for PassesOwn.never rfl (pi_range1 (by rfl) W.n_range (pa_cons (pe_op op_addU pe_int (pe_op op_mod (pe_callTy call_intU (by rfl) W.n_int bb_int (pa_cons (pv 1) pa_nil)) pe_int)) pa_nil)) (pg_name (i := 4) sc__law_built.nd rfl (by first | exact Or.inl rfl | exact Or.inr rfl)) (pss_cons (ps_set (i := 5) sc__law_built.nd rfl (by first | exact Or.inl rfl | exact Or.inr rfl) (pe_call (ok__law_number W) (hr.mono (by decide)) rfl W.g__law_number W.F__law_number.kp W.b__law_number .nil pass0 (pa_cons (pe_op op_addU (pv 3) (pv 4)) (pa_cons (pv 4) pa_nil))))
      (pss_cons (ps_set (i := 3) sc__law_built.nd rfl (by first | exact Or.inl rfl | exact Or.inr rfl) (pe_op op_fdivW (pv 3) pe_int))
      (pss_cons (ps_set (i := 6) sc__law_built.nd rfl (by first | exact Or.inl rfl | exact Or.inr rfl) (pe_op op_mod (pe_callTy call_intU (by rfl) W.n_int bb_int (pa_cons (pv 5) pa_nil)) pe_int))
      (Evl.pss_cut (ps_if (pt_cmpR (op_eqU hu64) (pe_op op_mod (pe_op op_fdivW (pv 5) pe_int) pe_int) pe_int (by first | exact nomark _ | rfl)) (pss_one (ps_set (i := 6) sc__law_built.nd rfl (by first | exact Or.inl rfl | exact Or.inr rfl) (pe_op op_addU pe_int (pe_op op_mod (pe_op op_fdivW (pv 5) pe_int) pe_int)))) pss_nil)
      (pss_cons (ps_set (i := 7) sc__law_built.nd rfl (by first | exact Or.inl rfl | exact Or.inr rfl) (pe_call (ok__law_word W) (hr.mono (by decide)) rfl W.g__law_word W.F__law_word.kp W.b__law_word .nil pass0 (pa_cons (pe_op op_fdivW (pv 5) pe_int) pa_nil)))
      (pss_cons (ps_if (pt_not (pt_truth (pe_call (ok__law_is W) (hr.mono (by decide)) rfl W.g__law_is W.F__law_is.kp W.b__law_is .nil pass0 (pa_cons (pe_meth (pv 0) W.C_Store W.m_Store_allocate (ok_Store_allocate W) (hr.mono (by decide)) W.b_Store_allocate .nil pass0 (pa_cons (pv 7) (pa_cons (pv 6) pa_nil))) (pa_cons (pv 4) pa_nil))) (by intro _; rfl))) (pss_one (ps_ret pe_non)) pss_nil)
      (pss_cons (ps_setLc (i := 8) (own := [("_law_at", 9)]) (g := gName 9) (tt := tYes) rfl sc__law_built.nd rfl rfl (sw_true rfl rfl rfl (by decide +kernel)) (pi_range1 (by rfl) W.n_range (pa_cons (pv 6) pa_nil)) (blkOk_by (N := N__law_built) (sc := defScope s__law_built) (by decide +kernel)) (fun _ _ _ _ _ => (pg_name (i := 9) sc__law_built.nd rfl (by first | exact Or.inl rfl | exact Or.inr rfl))) (fun _ _ _ _ _ => pts_nil) (fun _ _ _ _ _ => (pe_call (ok__law_word W) (hr.mono (by decide)) rfl W.g__law_word W.F__law_word.kp W.b__law_word .nil pass0 (pa_cons (pe_op (op_addUK (K := K) rfl) (pe_op op_fdivW (pv 5) pe_int) (pe_op op_mulU (pv 9) pe_int)) pa_nil))))
      (pss_cons (ps_for PassesOwn.never rfl (pi_range1 (by rfl) W.n_range (pa_cons (pv 6) pa_nil)) (pg_name (i := 9) sc__law_built.nd rfl (by first | exact Or.inl rfl | exact Or.inr rfl)) (pss_one (ps_expr (pe_meth (pv 0) W.C_Store W.m_Store_put (ok_Store_put W) (hr.mono (by decide)) W.b_Store_put .nil pass0 (pa_cons (pv 4) (pa_cons (pv 9) (pa_cons (pe_ix (ix_U hu1) (pv 8) (pv 9) (fun _ _ => rfl)) pa_nil)))))))
      (pss_one (ps_expr (pe_bm PySem.F.plainAttrs_list PySem.F.slot_list_append PySem.F.type_list_append mt_append (pv 2) (pa_cons (pe_lst (pa_cons (pv 7) (pa_cons (pv 8) pa_nil))) pa_nil)))))))))))))
      (pss_one (ps_ret (pv 2)))))), ?_⟩
    refine ⟨(by show 0 ≤ sizeLine; decide), fun tl htl => ?_⟩
    have L0 : Law3 W.c_Store (upd H tl (.lst [])) st dx wl pl tl [] [] [] 0 := by
      have f : Fr [] H (upd H tl (.lst [])) := Fr.new htl
      exact ⟨S.keep f (by simp), Good.nil, ⟨upd_same, rfl, fun i a o h => by simp at h⟩, new3 S htl, fun a h => by simp at h, fun a h => by simp at h, fun o h => by simp at h⟩
    have f0 : Fr [st, wl, pl] H (upd H tl (.lst [])) := Fr.new htl
    generalize upd H tl (.lst []) = H0 at L0 f0
    refine ⟨_, rfl, _, _, rfl, rfl, ⟨by decide, by decide⟩, ?_⟩
    refine ⟨_, rfl, _, _, rfl, rfl, (by show (0 : Int) < 9; decide), ?_⟩
    have e1 := Int.emod_nonneg x (by decide : (9 : Int) ≠ 0)
    have e2 := Int.emod_lt_of_pos x (by decide : (0 : Int) < 9)
    refine ⟨((1 + (x % 9).toNat : Nat) : Int), by rw [show ((1 + (x % 9).toNat : Nat) : Int) = 1 + x % 9 by omega], by omega, by omega, ?_⟩
    rw [Int.toNat_natCast]
    refine for_range (lo := 0) (n := 1 + (x % 9).toNat) (fun i σ H' => ∃ (r : Int) (v4 v5 v6 v7 v8 v9 : Option V) (A : List (Addr × Addr)) (T : List (Int × List Int)) (kvs : List (Key × V)) (least : Int), σ = [some (.ref st), some (.int x), some (.ref tl), some (.int r), v4, v5, v6, v7, v8, v9] ∧ Law3 W.c_Store H' st dx wl pl tl A T kvs least ∧ T.length = i ∧ Fr [st, wl, pl] H H' ∧ ∀ a ∈ A, H a.1 = none ∧ H a.2 = none)
        ⟨_, _, _, _, _, _, _, [], [], [], 0, rfl, L0, rfl, f0, fun a h => by simp at h⟩ (fun i σ H1 hi hI => ?_) (fun σ H1 hI => ?_)
    · obtain ⟨r, v4, v5, v6, v7, v8, v9, A, T, kvs, least, rfl, L, hl, f1, nw⟩ := hI
      refine ⟨_, rfl, _, rfl, ?_⟩
      refine ⟨_, rfl, ?_⟩
      refine ⟨_, _, rfl, by omega, by omega, fun y hy => ?_⟩
      refine ⟨_, rfl, _, _, rfl, rfl, ⟨by decide, by decide⟩, ?_⟩
      refine ⟨_, rfl, _, _, rfl, rfl, (by show (0 : Int) < 6; decide), ?_⟩
      refine ⟨fun σ H' => ∃ z : Nat, z ≤ 69 ∧ σ = [some (.ref st), some (.int x), some (.ref tl), some (.int (r / 1000003)), some (.int (0 + (i : Int))), some (.int y), some (.int (z : Int)), v7, v8, v9] ∧ H' = H1, ?_, ?_⟩
      · refine ⟨_, rfl, _, _, rfl, rfl, ⟨by decide, by decide⟩, _, _, rfl, rfl, (by show (0 : Int) < 8; decide), rfl, _, rfl, ?_⟩
        refine iteD (fun _ => ?_) (fun _ => ?_)
        · refine ⟨_, rfl, _, _, rfl, rfl, ⟨by decide, by decide⟩, ?_⟩
          refine ⟨_, _, rfl, rfl, (by show (0 : Int) < 64; decide), ?_⟩
          have e3 := Int.emod_nonneg (y / 48) (by decide : (64 : Int) ≠ 0)
          have e4 := Int.emod_lt_of_pos (y / 48) (by decide : (0 : Int) < 64)
          exact ⟨(6 + y / 48 % 64).toNat, by omega, by rw [show ((6 + y / 48 % 64).toNat : Int) = 6 + y / 48 % 64 by omega]; rfl, rfl⟩
        · have e3 := Int.emod_nonneg y (by decide : (6 : Int) ≠ 0)
          have e4 := Int.emod_lt_of_pos y (by decide : (0 : Int) < 6)
          exact ⟨(y % 6).toNat, by omega, by rw [show ((y % 6).toNat : Int) = y % 6 by omega]; rfl, rfl⟩
      rintro σ H2 ⟨z, hz, rfl, rfl⟩
      -- the kind
      refine ⟨_, rfl, _, _, rfl, rfl, ⟨by decide, by decide⟩, ?_⟩
      refine ⟨_, rfl, fun x1 => ?_⟩
      -- allocate
      have fl2 := flat_lenB (O := obs 0 T) (m := 69) fun o ho => by
        obtain ⟨t, ht, e⟩ := obs_mem ho
        rw [e]; exact L.sz t ht
      rw [obs_len] at fl2
      have kl2 := L.G.kl
      rw [obs_len] at kl2
      refine ⟨_, rfl, st, dx, _, rfl, L.S.st, rfl, ?_⟩
      refine ⟨_, rfl, ?_⟩
      refine ⟨_, rfl, ?_⟩
      refine ⟨st, dx, wl, pl, _, _, least, _, kvs, x1, z, rfl, L.S, L.G.seen, by omega, by decide, by omega, by decide, fun m H3 S3 f3 hs3 hm3 => ?_⟩
      have iffL : ∀ n, (valV kvs (.inl n)).isSome = true ↔ 0 ≤ n ∧ n < T.length := fun n => (L.G.iff n).trans obs_live
      have em : m = (i : Int) := by
        have h1 : ¬ (m < (T.length : Int)) := fun h => by
          have := (iffL m).mpr ⟨hs3.1, h⟩
          rw [hm3] at this
          cases this
        have h2 : ¬ ((T.length : Int) < m) := fun h => by
          have := (iffL (T.length : Int)).mp (hs3.2 (T.length : Int) (by omega) h)
          omega
        omega
      refine ⟨_, rfl, ?_⟩
      refine ⟨_, _, rfl, ?_⟩
      rw [decide_eq_true (by omega : m = 0 + (i : Int))]
      refine ⟨_, rfl, iteF ?_⟩
      have hnT : ((0 + T.length : Nat) : Int) = m := by omega
      have G3 : Good (obs 0 T ++ [{ num := m, kind := x1, sl := List.replicate z 0, live := true }]) (putK kvs (.inl m) (.int ((flat (obs 0 T)).length : Int))) m := L.G.add (o := { num := m, kind := x1, sl := List.replicate z 0, live := true }) rfl hm3 hs3
      have eF : flat (obs 0 T) ++ (m :: (z : Int) :: x1 :: List.replicate z 0) = flat (obs 0 T ++ [{ num := m, kind := x1, sl := List.replicate z 0, live := true }]) := by
        rw [flat_app]
        show _ = _ ++ (fl _ ++ [])
        rw [List.append_nil]
        unfold fl
        rw [List.length_replicate]
      rw [eF] at S3
      have R3 := L.R.keep f3 L.d1 L.d2
      have f3' := f1.trans f3
      -- contents
      refine ⟨_, rfl, _, rfl, by omega, by omega, fun cA hcA => ?_⟩
      rw [Int.toNat_natCast]
      refine lc_range (lo := 0) (n := z) (fun i H' => ∃ cs : List Int, cs.length = i ∧ H' = upd H3 cA (.lst (cs.map V.int))) ⟨[], rfl, rfl⟩ (fun j H' hj e => ?_) (fun H' e => ?_)
      · obtain ⟨cs, hcs, rfl⟩ := e
        refine ⟨rfl, ?_⟩
        refine ⟨_, rfl, _, _, rfl, rfl, ⟨by decide, by decide⟩, ?_⟩
        refine ⟨_, rfl, Or.inr ⟨by decide, by decide⟩, ?_⟩
        refine ⟨_, rfl, fun x2 => ?_⟩
        refine ⟨_, upd_same, by rw [List.length_map, sizeLine_eq]; omega, cs ++ [x2], by rw [List.length_append, hcs]; rfl, ?_⟩
        rw [upd_upd, List.map_append]
        rfl
      obtain ⟨cs, hcs, rfl⟩ := e
      have f4 : Fr [] H3 (upd H3 cA (.lst (cs.map V.int))) := Fr.new hcA
      have hc4 : upd H3 cA (.lst (cs.map V.int)) cA = some (.lst (cs.map V.int)) := upd_same
      have ncA := new3 S3 hcA
      have ntc : cA ≠ tl := (ne_of_none R3.tl hcA).symm
      show gName 8 (V.ref cA) _ (upd H3 cA (.lst (cs.map V.int))) _
      generalize upd H3 cA (.lst (cs.map V.int)) = H4 at f4 hc4
      have S4 := S3.keep f4 (by simp)
      have R4 := R3.mono f4
      have f4' := f3'.trans (f4.mono (by simp))
      generalize hkv : putK kvs (.inl m) (.int ((flat (obs 0 T)).length : Int)) = kv at S4 G3 S3
      -- put
      refine ⟨_, rfl, _, rfl, by omega, by omega, ?_⟩
      rw [Int.toNat_natCast]
      refine for_range (lo := 0) (n := z) (fun j σ H' => ∃ (v9 : Option V) (sl : List Int), σ = [some (.ref st), some (.int x), some (.ref tl), some (.int (r / 1000003)), some (.int (0 + (i : Int))), some (.int y), some (.int (z : Int)), some (.int x1), some (.ref cA), v9] ∧ sl.length = z ∧ (∀ n : Nat, n < j → sl[n]? = cs[n]?) ∧ StoreAt H' W.c_Store st dx wl pl 100000 100000 m (flat (obs 0 T ++ [{ num := m, kind := x1, sl := sl, live := true }])) kv ∧ Good (obs 0 T ++ [{ num := m, kind := x1, sl := sl, live := true }]) kv m ∧ Fr [st, wl, pl] H4 H')
        ⟨_, List.replicate z 0, rfl, List.length_replicate, fun n hn => by omega, S4, G3, Fr.rfl'⟩ (fun j σ H5 hj hI => ?_) (fun σ H5 hI => ?_)
      · obtain ⟨v9, sl, rfl, hsl, heq, S5, G5, f5⟩ := hI
        have hc5 := f5 _ _ hc4 ncA
        have hcj : cs[j]? = some cs[j] := List.getElem?_eq_getElem (by omega)
        have ho : (obs 0 T ++ [{ num := m, kind := x1, sl := sl, live := true }])[(obs 0 T).length]? = some { num := m, kind := x1, sl := sl, live := true } := by
          rw [List.getElem?_append_right (Nat.le_refl _), Nat.sub_self]; rfl
        refine ⟨_, rfl, st, dx, _, rfl, S5.st, rfl, ?_⟩
        refine ⟨_, rfl, ?_⟩
        refine ⟨_, rfl, ?_⟩
        refine ⟨_, rfl, _, rfl, Or.inl ⟨_, _, _, rfl, Or.inl (SqL.of hc5), by rw [Int.zero_add]; exact atI_nat (int_at hcj), ?_⟩⟩
        have hol := off_lt ho
        refine ⟨st, dx, wl, pl, _, _, m, _, kv, m, off (obs 0 T ++ [{ num := m, kind := x1, sl := sl, live := true }]) (obs 0 T).length, j, cs[j], by rw [Int.zero_add, Int.zero_add, em]; rfl, S5, G5.at ho rfl, by rw [show ({ num := m, kind := x1, sl := sl, live := true } : Ob).sl.length = z from hsl] at hol; omega, ?_⟩
        have nst : st ≠ wl := ne_of S5.st S5.wl (by intro z; cases z)
        have npl : pl ≠ wl := ne_of S5.pl S5.wl (by intro z; cases z)
        have eset : (obs 0 T ++ [({ num := m, kind := x1, sl := sl, live := true } : Ob)]).set (obs 0 T).length ({ num := m, kind := x1, sl := sl.set j cs[j], live := true } : Ob) = obs 0 T ++ [{ num := m, kind := x1, sl := sl.set j cs[j], live := true }] := by
          rw [List.set_append_right (h := Nat.le_refl _), Nat.sub_self]; rfl
        have G6 := G5.same ho (o' := { num := m, kind := x1, sl := sl.set j cs[j], live := true }) rfl rfl (by show (sl.set j cs[j]).length = sl.length; rw [List.length_set])
        rw [eset] at G6
        rw [set_slot cs[j] ho (by show j < sl.length; omega)]
        refine ⟨_, sl.set j cs[j], rfl, by rw [List.length_set]; exact hsl, fun n hn => ?_, ⟨by rw [upd_ne nst]; exact S5.st, by show upd _ _ _ _ = _; rw [upd_same]; rw [eset], by rw [upd_ne npl]; exact S5.pl⟩, G6, f5.trans (Fr.at (by simp))⟩
        rw [List.getElem?_set]
        by_cases e : j = n
        · subst e
          rw [if_pos rfl, if_pos (by omega), hcj]
        · rw [if_neg e]
          exact heq n (by omega)
      · obtain ⟨v9, sl, rfl, hsl, heq, S5, G5, f5⟩ := hI
        have esl : sl = cs := List.ext_getElem? fun n => by
          by_cases hn : n < z
          · exact heq n hn
          · rw [List.getElem?_eq_none_iff.mpr (by omega), List.getElem?_eq_none_iff.mpr (by omega)]
        subst esl
        have R5 := R4.keep f5 L.d1 L.d2
        have hc5 := f5 _ _ hc4 ncA
        have eO : obs 0 T ++ [{ num := m, kind := x1, sl := sl, live := true }] = obs 0 (T ++ [(x1, sl)]) := by rw [obs_app, hnT]
        rw [eO] at S5 G5
        refine ⟨_, rfl, Or.inl ⟨rfl, _, SqL.of R5.tl⟩, ?_⟩
        refine ⟨_, rfl, _, rfl, ?_⟩
        refine ⟨(by show 2 ≤ sizeLine; decide), fun q hq => ?_⟩
        have f6 : Fr [] H5 (upd H5 q (.lst [V.int x1, .ref cA])) := Fr.new hq
        have hq6 : upd H5 q (.lst [V.int x1, .ref cA]) q = some (.lst [V.int x1, .ref cA]) := upd_same
        have nq := new3 S5 hq
        have nqt : q ≠ tl := (ne_of_none R5.tl hq).symm
        generalize upd H5 q (.lst [V.int x1, .ref cA]) = H6 at f6 hq6
        have R6 := R5.mono f6
        have hc6 := f6 _ _ hc5 (by simp)
        have S6 := S5.keep f6 (by simp)
        refine ⟨tl, _, _, rfl, rfl, R6.tl, by rw [List.length_map, R6.len, sizeLine_eq]; omega, ?_⟩
        have e8 : (A.map fun a => V.ref a.1) ++ [V.ref q] = (A ++ [(q, cA)]).map fun a => V.ref a.1 := by rw [List.map_append]; rfl
        rw [e8]
        have f8 : Fr [tl] H6 (upd H6 tl (.lst ((A ++ [(q, cA)]).map fun a => V.ref a.1))) := Fr.at (by simp)
        have S8 := S6.keep f8 (fun b hb h => by
          have h : b = tl := by simpa using h
          rw [h] at hb; exact L.d1 hb)
        have bk : ∀ c, H5 c = none → H c = none := fun c hc => by
          cases e : H c with
          | none => rfl
          | some o =>
            by_cases hm : c ∈ [st, wl, pl]
            · simp only [List.mem_cons, List.not_mem_nil, or_false] at hm
              rcases hm with h | h | h
              · rw [h, S5.st] at hc; cases hc
              · rw [h, S5.wl] at hc; cases hc
              · rw [h, S5.pl] at hc; cases hc
            · rw [(f4'.trans f5) _ _ e hm] at hc; cases hc
        have bk3 : H cA = none := by
          cases e : H cA with
          | none => rfl
          | some o => rw [f3' _ _ e ncA] at hcA; cases hcA
        refine ⟨_, _, _, _, _, _, _, A ++ [(q, cA)], T ++ [(x1, sl)], kv, m, rfl, ⟨S8, G5, ⟨upd_same, by rw [List.length_append, List.length_append, R6.len]; rfl, fun n a t ha ht => ?_⟩, L.d1, fun a ha => ?_, fun a ha => ?_, fun t ht => ?_⟩, by rw [List.length_append, hl]; rfl, ?_, fun a ha => ?_⟩
        · rcases get_snoc ha with ha2 | ⟨ha2, rfl⟩
          · have hn := (List.getElem?_eq_some_iff.mp ha2).1
            rw [List.getElem?_append_left (by rw [← R6.len]; exact hn)] at ht
            obtain ⟨t1, t2⟩ := R6.it n a t ha2 ht
            have d := L.d3 a (List.mem_of_getElem? ha2)
            exact ⟨f8 _ _ t1 (by simpa using d.1), f8 _ _ t2 (by simpa using d.2)⟩
          · rw [ha2, R6.len, List.getElem?_append_right (Nat.le_refl _), Nat.sub_self] at ht
            cases ht
            exact ⟨f8 _ _ hq6 (by simpa using nqt), f8 _ _ hc6 (by simpa using ntc)⟩
        · rcases List.mem_append.mp ha with h | h
          · exact L.d2 a h
          · have e : a = (q, cA) := by simpa using h
            rw [e]; exact ⟨nq, ncA⟩
        · rcases List.mem_append.mp ha with h | h
          · exact L.d3 a h
          · have e : a = (q, cA) := by simpa using h
            rw [e]; exact ⟨nqt, ntc⟩
        · rcases List.mem_append.mp ht with h | h
          · exact L.sz t h
          · have e : t = (x1, sl) := by simpa using h
            rw [e]; show sl.length ≤ 69; omega
        · refine fun b o e hb => ?_
          have hbt : b ≠ tl := ne_of_none e htl
          exact f8 _ _ (f6 _ _ (f5 _ _ (f4' _ _ e hb) hb) (by simp)) (by simpa using hbt)
        · rcases List.mem_append.mp ha with h | h
          · exact nw a h
          · have e : a = (q, cA) := by simpa using h
            rw [e]; exact ⟨bk _ hq, bk3⟩
    · obtain ⟨r, v4, v5, v6, v7, v8, v9, A, T, kvs, least, rfl, L, hl, f1, nw⟩ := hI
      exact ⟨_, rfl, k tl A T kvs least H1 L (by omega) (by omega) f1 htl nw⟩
end

end LX
namespace LX
open PySem PySem.Spec PyProof.Rows L2 NdefX
/-! ### the row and the things by numbers -/
structure Tie (O : List Ob) (T : List (Int × List Int)) (L : List Int) : Prop where
  nd : ∀ (p q : Nat) (o o' : Ob), O[p]? = some o → O[q]? = some o' → o.num = o'.num → p = q
  lv : ∀ n, Live O n ↔ n ∈ L
  tn : ∀ o ∈ O, o.live = true → ∃ (k : Nat) (t : Int × List Int), o.num = (k : Int) ∧ T[k]? = some t ∧ o.kind = t.1 ∧ o.sl = t.2
theorem Tie.get {O : List Ob} {T : List (Int × List Int)} {L : List Int} (D : Tie O T L) {n : Int} (h : n ∈ L) : ∃ (i k : Nat) (o : Ob) (t : Int × List Int), O[i]? = some o ∧ o.live = true ∧ o.num = n ∧ n = (k : Int) ∧ T[k]? = some t ∧ o.kind = t.1 ∧ o.sl = t.2 := by
  obtain ⟨i, o, h1, h2, h3⟩ := (D.lv n).mpr h
  obtain ⟨k, t, h4, h5, h6, h7⟩ := D.tn o (List.mem_of_getElem? h1) h2
  exact ⟨i, k, o, t, h1, h2, h3, h3.symm.trans h4, h5, h6, h7⟩
theorem nodup_of_live {O : List Ob} {kvs : List (Key × V)} {least : Int} {L : List Int} (G : Good O kvs least) (h : ∀ n, Live O n ↔ n ∈ L) (nd : L.Nodup) : ((O.filter (·.live)).map (·.num)).Perm L :=
  perm_of G.nums nd fun n => (⟨fun hm => by
    obtain ⟨o, ho, rfl⟩ := List.mem_map.mp hm
    obtain ⟨h1, h2⟩ := List.mem_filter.mp ho
    obtain ⟨i, hi⟩ := List.getElem?_of_mem h1
    exact (h _).mp ⟨i, o, hi, h2, rfl⟩, fun hm => by
    obtain ⟨i, o, h1, h2, rfl⟩ := (h _).mpr hm
    exact List.mem_map.mpr ⟨o, List.mem_filter.mpr ⟨List.mem_of_getElem? h1, h2⟩, rfl⟩⟩ : _ ↔ _)
section
variable {P : Program} {w : World} {K : PySem.W.Frag} {mg : Str → Option Value} {base : Heap}
def sp_agrees : Addr → Sp := fun C vs H Q _ => ∃ st dx wl pl least O kvs tl A T la, ∃ L : List Int, vs = [.ref st, .ref tl, .ref la] ∧ StoreAt H C st dx wl pl 100000 100000 least (flat O) kvs ∧ Good O kvs least ∧ ThAt H tl A T ∧ IsI H la L ∧ Tie O T L ∧ L.Nodup ∧ L.Pairwise (· ≤ ·) ∧ (∀ t ∈ T, t.2.length ≤ 69) ∧ L.length ≤ 100 ∧
  ∀ H', Fr [] H H' → Q (.bl true) H'
theorem ok__law_agrees (W : WT P K mg base) : FnOk P w K mg base CX0 3 W.f__law_agrees W.fd__law_agrees ["_law_store", "_law_things", "_law_living"] (sp_agrees W.c_Store) := by
  refine W.F__law_agrees.ok sc__law_agrees (fun vs H Q E h => ?_) (fun cdv Ar outer s H vs Q E hr h => ?_)
  · obtain ⟨st, dx, wl, pl, least, O, kvs, tl, A, T, la, L, rfl, _⟩ := h
    rfl
  · obtain ⟨st, dx, wl, pl, least, O, kvs, tl, A, T, la, L, rfl, S, G, R, hL, D, ndL, asc, sz, lL, k⟩ := h
    have hu1 := hu_of hr
    have hu64 := hu64_of hr
    refine ⟨_, (pss_cons (ps_if (pt_not (pt_truth (pe_call (ok__law_same W) (hr.mono (by decide)) rfl W.g__law_same W.F__law_same.kp W.b__law_same .nil pass0 (pa_cons (pe_meth0 (pv 0) W.C_Store W.m_Store_numbers (ok_Store_numbers W) (hr.mono (by decide)) W.b_Store_numbers .nil pass0 ) (pa_cons (pv 2) pa_nil))) (by intro _; rfl))) (pss_one (ps_ret pe_bl)) pss_nil)
      (pss_cons (ps_for PassesOwn.never rfl (pi_list (pv 2)) (pg_name (i := 3) sc__law_agrees.nd rfl (by first | exact Or.inl rfl | exact Or.inr rfl)) (pss_cons (ps_set (i := 4) sc__law_agrees.nd rfl (by first | exact Or.inl rfl | exact Or.inr rfl) (pe_ix (ix_U hu1) (pv 1) (pv 3) (fun _ _ => rfl)))
      (pss_cons (ps_if (PW.pt (pw_or (pt_not (pt_truth (pe_call (ok__law_is W) (hr.mono (by decide)) rfl W.g__law_is W.F__law_is.kp W.b__law_is .nil pass0 (pa_cons (pe_meth (pv 0) W.C_Store W.m_Store_size (ok_Store_size W) (hr.mono (by decide)) W.b_Store_size .nil pass0 (pa_cons (pv 3) pa_nil)) (pa_cons (pe_callB call_lenU (by rfl) W.n_len bb_len (pa_cons (pe_ix (ix_U hu1) (pv 4) pe_int (fun _ _ => rfl)) pa_nil)) pa_nil))) (by intro _; rfl))) (pw_or1 (pt_not (pt_truth (pe_call (ok__law_is W) (hr.mono (by decide)) rfl W.g__law_is W.F__law_is.kp W.b__law_is .nil pass0 (pa_cons (pe_meth (pv 0) W.C_Store W.m_Store_kind (ok_Store_kind W) (hr.mono (by decide)) W.b_Store_kind .nil pass0 (pa_cons (pv 3) pa_nil)) (pa_cons (pe_ix (ix_U hu1) (pv 4) pe_int (fun _ _ => rfl)) pa_nil))) (by intro _; rfl)))))) (pss_one (ps_ret pe_bl)) pss_nil)
      (pss_cons (ps_if (pt_not (pt_truth (pe_call (ok__law_same W) (hr.mono (by decide)) rfl W.g__law_same W.F__law_same.kp W.b__law_same .nil pass0 (pa_cons (pe_meth (pv 0) W.C_Store W.m_Store_slots (ok_Store_slots W) (hr.mono (by decide)) W.b_Store_slots .nil pass0 (pa_cons (pv 3) pa_nil)) (pa_cons (pe_ix (ix_U hu1) (pv 4) pe_int (fun _ _ => rfl)) pa_nil))) (by intro _; rfl))) (pss_one (ps_ret pe_bl)) pss_nil)
      (pss_one (ps_for PassesOwn.never rfl (pi_range1 (by rfl) W.n_range (pa_cons (pe_callB call_lenU (by rfl) W.n_len bb_len (pa_cons (pe_ix (ix_U hu1) (pv 4) pe_int (fun _ _ => rfl)) pa_nil)) pa_nil)) (pg_name (i := 5) sc__law_agrees.nd rfl (by first | exact Or.inl rfl | exact Or.inr rfl)) (pss_one (ps_if (pt_not (pt_truth (pe_call (ok__law_is W) (hr.mono (by decide)) rfl W.g__law_is W.F__law_is.kp W.b__law_is .nil pass0 (pa_cons (pe_meth (pv 0) W.C_Store W.m_Store_get (ok_Store_get W) (hr.mono (by decide)) W.b_Store_get .nil pass0 (pa_cons (pv 3) (pa_cons (pv 5) pa_nil))) (pa_cons (pe_ix (ix_U hu1) (pe_ix (ix_U hu1) (pv 4) pe_int (fun _ _ => rfl)) (pv 5) (fun _ _ => rfl)) pa_nil))) (by intro _; rfl))) (pss_one (ps_ret pe_bl)) pss_nil))))))))
      (pss_one (ps_ret pe_bl)))), ?_⟩
    obtain ⟨ms, m1, m2⟩ := G.ints
    refine ⟨_, rfl, st, dx, _, rfl, S.st, rfl, ?_⟩
    refine ⟨st, dx, wl, pl, _, _, least, _, kvs, ms, rfl, S, m1, fun n1 q1 pm1 ps1 hq1 => ?_⟩
    have en : n1 = L := sorted_eq (pm1.trans (m2.trans (nodup_of_live G D.lv ndL))) ps1 asc
    rw [en]
    have f1 : Fr [] H (upd H q1 (.lst (L.map V.int))) := Fr.new hq1
    have hq2 : upd H q1 (.lst (L.map V.int)) q1 = some (.lst (L.map V.int)) := upd_same
    generalize upd H q1 (.lst (L.map V.int)) = H1 at f1 hq2
    have S1 := S.keep f1 (by simp)
    have R1 := R.mono f1
    have hL1 := f1 _ _ hL (by simp)
    refine ⟨_, rfl, ?_⟩
    refine ⟨q1, la, L, rfl, hq2, hL1, by omega, ?_⟩
    refine ⟨_, rfl, iteF ?_⟩
    refine ⟨_, rfl, la, rfl, ⟨_, SqL.of hL1⟩, ?_⟩
    refine for_list (K := K) (a := la) (xs := L.map V.int) (fun j σ H' => (∃ (v3 v4 v5 : Option V), σ = [some (.ref st), some (.ref tl), some (.ref la), v3, v4, v5]) ∧ Fr [] H1 H') ⟨⟨_, _, _, rfl⟩, Fr.rfl'⟩ (fun j σ H' _ e => SqL.of (e.2 _ _ hL1 (by simp))) (fun j x σ H2 hx e => ?_) (fun σ H2 e => ?_)
    · obtain ⟨⟨v3, v4, v5, rfl⟩, f2⟩ := e
      have S2 := S1.keep f2 (by simp)
      have R2 := R1.mono f2
      rw [List.getElem?_map] at hx
      obtain ⟨n, hn, rfl⟩ := Option.map_eq_some_iff.mp hx
      obtain ⟨i, kk, o, t, ho, hl, e1, e2, ht, ek, es⟩ := D.get (List.mem_of_getElem? hn)
      subst e2
      obtain ⟨a, ha, ra, t1, t2⟩ := R2.get ht
      have hv := G.at ho hl
      rw [e1] at hv
      have s69 := sz t (List.mem_of_getElem? ht)
      refine ⟨_, rfl, _, rfl, Or.inl ⟨_, _, _, rfl, Or.inl (SqL.of R2.tl), atI_nat ra, ?_⟩⟩
      -- the size
      refine ⟨_, rfl, st, dx, _, rfl, S2.st, rfl, ?_⟩
      refine ⟨_, rfl, ?_⟩
      refine ⟨st, dx, wl, pl, _, _, least, _, kvs, _, off O i, _, rfl, S2, hv, flat_size ho, ?_⟩
      refine ⟨_, rfl, Or.inl ⟨_, _, _, rfl, Or.inl (SqL.of t1), rfl, ?_⟩⟩
      refine Or.inl ⟨_, Or.inl (SqL.of t2), ?_⟩
      rw [List.length_map]
      refine ⟨_, _, rfl, ?_⟩
      rw [decide_eq_true (by rw [es])]
      refine ⟨_, rfl, iteF ?_⟩
      -- the kind
      refine ⟨_, rfl, st, dx, _, rfl, S2.st, rfl, ?_⟩
      refine ⟨_, rfl, ?_⟩
      refine ⟨st, dx, wl, pl, _, _, least, _, kvs, _, off O i, _, rfl, S2, hv, flat_kind ho, ?_⟩
      refine ⟨_, rfl, Or.inl ⟨_, _, _, rfl, Or.inl (SqL.of t1), rfl, ?_⟩⟩
      refine ⟨_, _, rfl, ?_⟩
      rw [decide_eq_true ek]
      refine ⟨_, rfl, iteF ?_⟩
      -- the slots
      refine ⟨_, rfl, st, dx, _, rfl, S2.st, rfl, ?_⟩
      refine ⟨_, rfl, ?_⟩
      refine ⟨st, dx, wl, pl, _, _, least, _, kvs, _, off O i, o.sl.length, rfl, S2, hv, flat_size ho, off_lt ho, fun q hq => ?_⟩
      rw [flat_slots ho, es]
      have f3 : Fr [] H2 (upd H2 q (.lst (t.2.map V.int))) := Fr.new hq
      have hq3 : upd H2 q (.lst (t.2.map V.int)) q = some (.lst (t.2.map V.int)) := upd_same
      generalize upd H2 q (.lst (t.2.map V.int)) = H3 at f3 hq3
      have S3 := S2.keep f3 (by simp)
      have t1 := f3 _ _ t1 (by simp)
      have t2 := f3 _ _ t2 (by simp)
      refine ⟨_, rfl, Or.inl ⟨_, _, _, rfl, Or.inl (SqL.of t1), rfl, ?_⟩⟩
      refine ⟨q, a.2, t.2, rfl, hq3, t2, by omega, ?_⟩
      refine ⟨_, rfl, iteF ?_⟩
      -- each slot
      refine ⟨_, rfl, Or.inl ⟨_, _, _, rfl, Or.inl (SqL.of t1), rfl, ?_⟩⟩
      refine Or.inl ⟨_, Or.inl (SqL.of t2), ?_⟩
      rw [List.length_map]
      refine ⟨_, rfl, by show -(2 ^ 62) ≤ ((t.2.length : Nat) : Int); omega, by show ((t.2.length : Nat) : Int) < 2 ^ 62; omega, for_range (lo := 0) (n := t.2.length) (fun _ σ H' => (∃ v5 : Option V, σ = [some (.ref st), some (.ref tl), some (.ref la), some (.int (kk : Int)), some (.ref a.1), v5]) ∧ H' = H3) ⟨⟨_, rfl⟩, rfl⟩ (fun m σ H' hm e => ?_) (fun σ H' e => ?_)⟩
      · obtain ⟨⟨v5, rfl⟩, rfl⟩ := e
        have hz : t.2[m]? = some t.2[m] := List.getElem?_eq_getElem hm
        have hw : (flat O)[off O i + 3 + m]? = some t.2[m] := by
          have h := flat_at (k := 3 + m) ho (by rw [fl_len, es]; omega)
          rw [← Nat.add_assoc] at h
          rw [h]
          unfold fl
          rw [show 3 + m = m + 1 + 1 + 1 by omega, List.getElem?_cons_succ, List.getElem?_cons_succ, List.getElem?_cons_succ, es, hz]
        refine ⟨_, rfl, st, dx, _, rfl, S3.st, rfl, ?_⟩
        refine ⟨_, rfl, ?_⟩
        refine ⟨_, rfl, ?_⟩
        refine ⟨st, dx, wl, pl, _, _, least, _, kvs, _, off O i, m, _, by rw [Int.zero_add]; rfl, S3, hv, hw, ?_⟩
        refine ⟨_, rfl, Or.inl ⟨_, _, _, rfl, Or.inl (SqL.of t1), rfl, ?_⟩⟩
        refine ⟨_, rfl, Or.inl ⟨_, _, _, rfl, Or.inl (SqL.of t2), by rw [Int.zero_add]; exact atI_nat (int_at hz), ?_⟩⟩
        refine ⟨_, _, rfl, ?_⟩
        rw [decide_eq_true rfl]
        refine ⟨_, rfl, iteF ?_⟩
        exact ⟨⟨_, rfl⟩, rfl⟩
      · obtain ⟨⟨v5, rfl⟩, rfl⟩ := e
        exact ⟨⟨_, _, _, rfl⟩, f2.trans f3⟩
    · obtain ⟨_, f2⟩ := e
      exact k _ (f1.trans f2)
/-- where the objects begin -/
def offs (O : List Ob) (n : Nat) : List Int := (List.range n).map fun i => ((off O i : Nat) : Int)
theorem offs_succ (O : List Ob) (n : Nat) : offs O (n + 1) = offs O n ++ [((off O n : Nat) : Int)] := by
  unfold offs
  rw [List.range_succ, List.map_append]; rfl
theorem off_succ {O : List Ob} {n : Nat} {o : Ob} (h : O[n]? = some o) : off O (n + 1) = off O n + 3 + o.sl.length := by
  unfold off
  rw [List.take_succ, h, flat_app, List.length_append]
  show _ + (fl o ++ []).length = _
  rw [List.append_nil, fl_len]
  omega
theorem off_ge (O : List Ob) : ∀ n, n ≤ O.length → n ≤ off O n
  | 0, _ => Nat.zero_le _
  | n + 1, h => by
    have := off_ge O n (by omega)
    rw [off_succ (List.getElem?_eq_getElem (by omega : n < O.length))]
    omega
def sp_starts : Sp := fun vs H Q _ => ∃ b O, vs = [.ref b] ∧ IsI H b (flat O) ∧ (flat O).length ≤ 100000 ∧ ∀ q H', H q = none → IsI H' q (offs O O.length) → Fr [] H H' → Q (.ref q) H'
theorem ok__law_starts (W : WT P K mg base) : FnOk P w K mg base CX0 1 W.f__law_starts W.fd__law_starts ["_law_words"] sp_starts := by
  refine W.F__law_starts.ok sc__law_starts (fun vs H Q E h => ?_) (fun cdv Ar outer s H vs Q E hr h => ?_)
  · obtain ⟨b, O, rfl, _⟩ := h
    rfl
  · obtain ⟨b, O, rfl, hb, hl, k⟩ := h
    have hu1 := hu_of hr
    have hu64 := hu64_of hr
    refine ⟨_, (pss_cons (ps_set (i := 1) sc__law_starts.nd rfl (by first | exact Or.inl rfl | exact Or.inr rfl) (pe_lst pa_nil))
      (pss_cons (ps_set (i := 2) sc__law_starts.nd rfl (by first | exact Or.inl rfl | exact Or.inr rfl) pe_int)
      (pss_cons (ps_for PassesOwn.never rfl (pi_range1 (by rfl) W.n_range (pa_cons (pe_callB call_lenU (by rfl) W.n_len bb_len (pa_cons (pv 0) pa_nil)) pa_nil)) (pg_name (i := 3) sc__law_starts.nd rfl (by first | exact Or.inl rfl | exact Or.inr rfl)) (pss_one (ps_if (pt_cmpR op_ltU (pv 2) (pe_callB call_lenU (by rfl) W.n_len bb_len (pa_cons (pv 0) pa_nil)) (by first | exact nomark _ | rfl)) (pss_cons (ps_expr (pe_bm PySem.F.plainAttrs_list PySem.F.slot_list_append PySem.F.type_list_append mt_append (pv 1) (pa_cons (pv 2) pa_nil)))
      (pss_one (ps_set (i := 2) sc__law_starts.nd rfl (by first | exact Or.inl rfl | exact Or.inr rfl) (pe_op op_addU (pe_op op_addU (pv 2) pe_int) (pe_ix (ix_U hu1) (pv 0) (pe_op op_addU (pv 2) pe_int) (fun _ _ => rfl)))))) pss_nil)))
      (pss_one (ps_ret (pv 1)))))), ?_⟩
    refine ⟨(by show 0 ≤ sizeLine; decide), fun q hq => ?_⟩
    have f1 : Fr [] H (upd H q (.lst [])) := Fr.new hq
    have hq1 : upd H q (.lst []) q = some (.lst ((offs O 0).map V.int)) := upd_same
    have nq : b ≠ q := ne_of_none hb hq
    generalize upd H q (.lst []) = H1 at f1 hq1
    have hb1 := f1 _ _ hb (by simp)
    have oge := off_ge O O.length (Nat.le_refl _)
    rw [off_end] at oge
    refine ⟨_, rfl, Or.inl ⟨_, Or.inl (SqL.of hb1), ?_⟩⟩
    rw [List.length_map]
    refine ⟨_, rfl, by omega, by omega, for_range (lo := 0) (n := (flat O).length) (fun i σ H' => ∃ (v3 : Option V) (n : Nat), σ = [some (.ref b), some (.ref q), some (.int (off O n : Nat)), v3] ∧ n = min i O.length ∧ IsI H' q (offs O n) ∧ Fr [] H H') ⟨_, 0, rfl, by omega, hq1, f1⟩ (fun i σ H2 hi hI => ?_) (fun σ H2 hI => ?_)⟩
    · obtain ⟨v3, n, rfl, hn, hI, f2⟩ := hI
      have hb2 := f2 _ _ hb (by simp)
      refine ⟨_, rfl, _, rfl, Or.inl ⟨_, Or.inl (SqL.of hb2), ?_⟩⟩
      rw [List.length_map]
      refine ⟨_, rfl, ?_⟩
      refine iteD (fun h => ?_) (fun h => ?_)
      · have h : ((off O n : Nat) : Int) < ((flat O).length : Int) := h
        have hn2 : n < O.length := by
          rcases Nat.lt_or_ge n O.length with h2 | h2
          · exact h2
          · exfalso
            have : n = O.length := by omega
            rw [this, off_end] at h
            omega
        have ho : O[n]? = some O[n] := List.getElem?_eq_getElem hn2
        refine ⟨_, rfl, Or.inl ⟨rfl, _, SqL.of hI⟩, ?_⟩
        refine ⟨_, rfl, ?_⟩
        refine ⟨q, _, _, rfl, rfl, hI, by unfold offs; rw [List.length_map, List.length_map, List.length_range, sizeLine_eq]; omega, ?_⟩
        have e1 : (offs O n).map V.int ++ [V.int ((off O n : Nat) : Int)] = (offs O (n + 1)).map V.int := by rw [offs_succ, List.map_append]; rfl
        rw [e1]
        have hb3 : upd H2 q (.lst ((offs O (n + 1)).map V.int)) b = some (.lst ((flat O).map V.int)) := by rw [upd_ne nq]; exact hb2
        have f3 : Fr [] H (upd H2 q (.lst ((offs O (n + 1)).map V.int))) := f2.skip hq
        have hq3 : upd H2 q (.lst ((offs O (n + 1)).map V.int)) q = some (.lst ((offs O (n + 1)).map V.int)) := upd_same
        generalize upd H2 q (.lst ((offs O (n + 1)).map V.int)) = H3 at hb3 f3 hq3
        refine ⟨_, rfl, ?_⟩
        refine ⟨_, rfl, _, rfl, ?_⟩
        refine Or.inl ⟨_, _, _, rfl, Or.inl (SqL.of hb3), atI_nat (j := off O n + 1) (int_at (flat_size ho)), ?_⟩
        refine ⟨some (.int (0 + (i : Int))), n + 1, ?_, by omega, hq3, f3⟩
        rw [off_succ ho]
        show [_, _, some (V.int (((off O n : Nat) : Int) + 3 + (O[n].sl.length : Int))), _] = _
        rw [show ((off O n + 3 + O[n].sl.length : Nat) : Int) = ((off O n : Nat) : Int) + 3 + (O[n].sl.length : Int) by omega]
      · have h : ¬ ((off O n : Nat) : Int) < ((flat O).length : Int) := h
        have hn2 : n = O.length := by
          rcases Nat.lt_or_ge n O.length with h2 | h2
          · exfalso
            have := off_lt (List.getElem?_eq_getElem h2)
            omega
          · omega
        exact ⟨_, n, rfl, by omega, hI, f2⟩
    · obtain ⟨v3, n, rfl, hn, hI, f2⟩ := hI
      have : n = O.length := by omega
      subst this
      exact ⟨_, rfl, k q H2 hq hI f2⟩
theorem mem_offs {O : List Ob} {n : Nat} {z : Int} : z ∈ offs O n ↔ ∃ i : Nat, i < n ∧ z = (off O i : Nat) := by
  unfold offs
  constructor
  · intro h
    obtain ⟨i, hi, e⟩ := List.mem_map.mp h
    exact ⟨i, List.mem_range.mp hi, e.symm⟩
  · rintro ⟨i, hi, rfl⟩
    exact List.mem_map.mpr ⟨i, List.mem_range.mpr hi, rfl⟩
theorem off_inj {O : List Ob} {i j : Nat} (hi : i < O.length) (hj : j < O.length) (e : off O i = off O j) : i = j := by
  have mono : ∀ n, n ≤ O.length → ∀ m, m < n → off O m < off O n := by
    intro n
    induction n with
    | zero => intro _ m h; omega
    | succ n ih =>
      intro hn m hm
      rw [off_succ (List.getElem?_eq_getElem (by omega : n < O.length))]
      by_cases q : m = n
      · subst q; omega
      · have := ih (by omega) m (by omega)
        omega
  rcases Nat.lt_trichotomy i j with h | h | h
  · have := mono j (by omega) i h; omega
  · exact h
  · have := mono i (by omega) j h; omega
/-- what stands at a place behind the exchange -/
theorem swap_at {O : List Ob} {i j : Nat} {a c : Ob} (nd : ∀ (p q : Nat) (o o' : Ob), O[p]? = some o → O[q]? = some o' → o.num = o'.num → p = q) (ha : O[i]? = some a) (hc : O[j]? = some c) {m : Nat} (hm : m < (flat O).length) {z : Int} (hz : (flat O)[m]? = some z) :
    (flat (swapO O i j a c))[m]? = some (if ((m : Nat) : Int) ∈ offs O O.length ∧ z = a.num then c.num else if ((m : Nat) : Int) ∈ offs O O.length ∧ z = c.num then a.num else z) := by
  have hi := (List.getElem?_eq_some_iff.mp ha).1
  have hj := (List.getElem?_eq_some_iff.mp hc).1
  have ni := flat_num ha
  have nj := flat_num hc
  rw [← swap_flat ha hc, List.getElem?_set, List.getElem?_set]
  by_cases h1 : off O j = m
  · subst h1
    have e : z = c.num := by rw [nj] at hz; exact (Option.some.inj hz).symm
    have mm : ((off O j : Nat) : Int) ∈ offs O O.length := mem_offs.mpr ⟨j, hj, rfl⟩
    rw [if_pos rfl, if_pos (by rw [List.length_set]; exact hm)]
    by_cases q : z = a.num
    · rw [if_pos ⟨mm, q⟩, ← q, e]
    · rw [if_neg (fun h => q h.2), if_pos ⟨mm, e⟩]
  · rw [if_neg h1]
    by_cases h2 : off O i = m
    · subst h2
      have e : z = a.num := by rw [ni] at hz; exact (Option.some.inj hz).symm
      have mm : ((off O i : Nat) : Int) ∈ offs O O.length := mem_offs.mpr ⟨i, hi, rfl⟩
      rw [if_pos rfl, if_pos hm, if_pos ⟨mm, e⟩]
    · rw [if_neg h2, hz]
      by_cases mm : ((m : Nat) : Int) ∈ offs O O.length
      · obtain ⟨n, hn, en⟩ := mem_offs.mp mm
        have en : m = off O n := by omega
        subst en
        have ho : O[n]? = some O[n] := List.getElem?_eq_getElem hn
        rw [flat_num ho] at hz
        have ez := Option.some.inj hz
        have z1 : z ≠ a.num := fun h => by
          have := nd n i _ _ ho ha (ez.trans h)
          subst this; exact h2 rfl
        have z2 : z ≠ c.num := fun h => by
          have := nd n j _ _ ho hc (ez.trans h)
          subst this; exact h1 rfl
        rw [if_neg (fun h => z1 h.2), if_neg (fun h => z2 h.2)]
      · rw [if_neg (fun h => mm h.1), if_neg (fun h => mm h.1)]
theorem swap_len {O : List Ob} {i j : Nat} {a c : Ob} (ha : O[i]? = some a) (hc : O[j]? = some c) : (flat (swapO O i j a c)).length = (flat O).length := by
  rw [← swap_flat ha hc, List.length_set, List.length_set]
def sp_changes : Sp := fun vs H Q _ => ∃ b w' O i j a c, vs = [.ref b, .ref w', .int a.num, .int c.num] ∧ IsI H b (flat O) ∧ IsI H w' (flat (swapO O i j a c)) ∧ O[i]? = some a ∧ O[j]? = some c ∧ (flat O).length ≤ 100000 ∧
  (∀ (p q : Nat) (o o' : Ob), O[p]? = some o → O[q]? = some o' → o.num = o'.num → p = q) ∧ ∀ H', Fr [] H H' → Q (.bl true) H'
theorem ok__law_changes (W : WT P K mg base) : FnOk P w K mg base CX0 2 W.f__law_changes W.fd__law_changes ["_law_before", "_law_after", "_law_first", "_law_second"] sp_changes := by
  refine W.F__law_changes.ok sc__law_changes (fun vs H Q E h => ?_) (fun cdv Ar outer s H vs Q E hr h => ?_)
  · obtain ⟨b, w', O, i, j, a, c, rfl, _⟩ := h
    rfl
  · obtain ⟨b, w', O, i, j, a, c, rfl, hb, hw, ha, hc, hl, nd, k⟩ := h
    have hu1 := hu_of hr
    have hu64 := hu64_of hr
    have sl := swap_len ha hc
    refine ⟨_, (pss_cons (ps_if (PW.pt (pw_or (pt_not (pt_truth (pe_callB call_isi (by rfl) W.n_isinstance bb_isinstance (pa_cons (pv 1) (pa_cons (pe_bt rfl W.n_list bb_list) pa_nil))) (by intro _; rfl))) (pw_or1 (pt_cmpR (op_neU hu64) (pe_callB call_lenU (by rfl) W.n_len bb_len (pa_cons (pv 0) pa_nil)) (pe_callB call_lenU (by rfl) W.n_len bb_len (pa_cons (pv 1) pa_nil)) (by first | exact nomark _ | rfl))))) (pss_one (ps_ret pe_bl)) pss_nil)
      (pss_cons (ps_set (i := 4) sc__law_changes.nd rfl (by first | exact Or.inl rfl | exact Or.inr rfl) (pe_call (ok__law_starts W) (hr.mono (by decide)) rfl W.g__law_starts W.F__law_starts.kp W.b__law_starts .nil pass0 (pa_cons (pv 0) pa_nil)))
      (pss_cons (ps_for PassesOwn.never rfl (pi_range1 (by rfl) W.n_range (pa_cons (pe_callB call_lenU (by rfl) W.n_len bb_len (pa_cons (pv 0) pa_nil)) pa_nil)) (pg_name (i := 5) sc__law_changes.nd rfl (by first | exact Or.inl rfl | exact Or.inr rfl)) (pss_cons (ps_set (i := 6) sc__law_changes.nd rfl (by first | exact Or.inl rfl | exact Or.inr rfl) (pe_ix (ix_U hu1) (pv 0) (pv 5) (fun _ _ => rfl)))
      (pss_cons (ps_if (PW.pt (pw_and (pt_cmpR (op_inU hu1) (pv 5) (pv 4) (by first | exact nomark _ | rfl)) (pw_and1 (pt_cmpR (op_eqU hu64) (pv 6) (pv 2) (by first | exact nomark _ | rfl))))) (pss_one (ps_set (i := 6) sc__law_changes.nd rfl (by first | exact Or.inl rfl | exact Or.inr rfl) (pv 3))) (pss_one (ps_if (PW.pt (pw_and (pt_cmpR (op_inU hu1) (pv 5) (pv 4) (by first | exact nomark _ | rfl)) (pw_and1 (pt_cmpR (op_eqU hu64) (pv 6) (pv 3) (by first | exact nomark _ | rfl))))) (pss_one (ps_set (i := 6) sc__law_changes.nd rfl (by first | exact Or.inl rfl | exact Or.inr rfl) (pv 2))) pss_nil)))
      (pss_one (ps_if (pt_not (pt_truth (pe_call (ok__law_is W) (hr.mono (by decide)) rfl W.g__law_is W.F__law_is.kp W.b__law_is .nil pass0 (pa_cons (pe_ix (ix_U hu1) (pv 1) (pv 5) (fun _ _ => rfl)) (pa_cons (pv 6) pa_nil))) (by intro _; rfl))) (pss_one (ps_ret pe_bl)) pss_nil)))))
      (pss_one (ps_ret pe_bl))))), ?_⟩
    refine ⟨_, rfl, ?_⟩
    refine ⟨_, _, _, _, _, rfl, ClsV.ty _, TyX.base (TyOf.lst hw), kt_list_list, ?_⟩
    refine ⟨_, rfl, iteF ?_⟩
    refine ⟨_, rfl, Or.inl ⟨_, Or.inl (SqL.of hb), ?_⟩⟩
    refine ⟨_, rfl, Or.inl ⟨_, Or.inl (SqL.of hw), ?_⟩⟩
    refine ⟨rfl, _, rfl, ?_⟩
    refine iteND (fun h => absurd (by rw [List.length_map, List.length_map, sl]) h) (fun _ => ?_)
    refine ⟨_, rfl, ?_⟩
    refine ⟨b, O, rfl, hb, hl, fun q H1 hq0 hq f1 => ?_⟩
    have hb1 := f1 _ _ hb (by simp)
    have hw1 := f1 _ _ hw (by simp)
    refine ⟨_, rfl, Or.inl ⟨_, Or.inl (SqL.of hb1), ?_⟩⟩
    rw [List.length_map]
    refine ⟨_, rfl, by omega, by omega, for_range (lo := 0) (n := (flat O).length) (fun i σ H' => (∃ (v5 v6 : Option V), σ = [some (.ref b), some (.ref w'), some (.int a.num), some (.int c.num), some (.ref q), v5, v6]) ∧ H' = H1) ⟨⟨_, _, rfl⟩, rfl⟩ (fun m σ H2 hm hI => ?_) (fun σ H2 hI => ?_)⟩
    · obtain ⟨⟨v5, v6, rfl⟩, rfl⟩ := hI
      have hz : (flat O)[m]? = some (flat O)[m] := List.getElem?_eq_getElem hm
      have hs := swap_at nd ha hc hm hz
      generalize (flat O)[m] = z at hz hs
      refine ⟨_, rfl, _, rfl, Or.inl ⟨_, _, _, rfl, Or.inl (SqL.of hb1), by rw [Int.zero_add]; exact atI_nat (int_at hz), ?_⟩⟩
      have fin : ∀ z', (flat (swapO O i j a c))[m]? = some z' → _root_.True := fun _ _ => trivial
      refine ⟨_, rfl, _, rfl, Or.inl ⟨_, Or.inl (SqL.of hq), rfl, flat_ints _, ?_⟩⟩
      rw [in_ints, Int.zero_add]
      refine ⟨_, rfl, ?_⟩
      refine iteD (fun hin => ?_) (fun hin => ?_)
      · refine ⟨_, rfl, _, rfl, rfl, _, rfl, ?_⟩
        refine ite_eq (I_dec _ _) (iteD (fun he => ?_) (fun he => ?_))
        · rw [if_pos ⟨hin, he⟩] at hs
          refine ⟨_, rfl, ?_⟩
          refine ⟨_, rfl, _, rfl, Or.inl ⟨_, _, _, rfl, Or.inl (SqL.of hw1), atI_nat (int_at hs), ?_⟩⟩
          refine ⟨_, rfl, ?_⟩
          refine ⟨_, _, rfl, ?_⟩
          rw [decide_eq_true rfl]
          refine ⟨_, rfl, iteF ⟨⟨_, _, rfl⟩, rfl⟩⟩
        · rw [if_neg (fun h => he h.2)] at hs
          refine ⟨_, rfl, _, rfl, Or.inl ⟨_, Or.inl (SqL.of hq), rfl, flat_ints _, ?_⟩⟩
          rw [in_ints]
          refine ⟨_, rfl, ?_⟩
          rw [decide_eq_true hin]
          refine iteT ?_
          refine ⟨_, rfl, _, rfl, rfl, _, rfl, ?_⟩
          refine ite_eq (I_dec _ _) (iteD (fun he2 => ?_) (fun he2 => ?_))
          · rw [if_pos ⟨hin, he2⟩] at hs
            refine ⟨_, rfl, ?_⟩
            refine ⟨_, rfl, _, rfl, Or.inl ⟨_, _, _, rfl, Or.inl (SqL.of hw1), atI_nat (int_at hs), ?_⟩⟩
            refine ⟨_, rfl, ?_⟩
            refine ⟨_, _, rfl, ?_⟩
            rw [decide_eq_true rfl]
            refine ⟨_, rfl, iteF ⟨⟨_, _, rfl⟩, rfl⟩⟩
          · rw [if_neg (fun h => he2 h.2)] at hs
            refine ⟨_, rfl, _, rfl, Or.inl ⟨_, _, _, rfl, Or.inl (SqL.of hw1), atI_nat (int_at hs), ?_⟩⟩
            refine ⟨_, rfl, ?_⟩
            refine ⟨_, _, rfl, ?_⟩
            rw [decide_eq_true rfl]
            refine ⟨_, rfl, iteF ⟨⟨_, _, rfl⟩, rfl⟩⟩
      · rw [if_neg (fun h => hin h.1), if_neg (fun h => hin h.1)] at hs
        refine ⟨_, rfl, _, rfl, Or.inl ⟨_, Or.inl (SqL.of hq), rfl, flat_ints _, ?_⟩⟩
        rw [in_ints]
        refine ⟨_, rfl, ?_⟩
        rw [decide_eq_false hin]
        refine iteF ?_
        refine ⟨_, rfl, _, rfl, Or.inl ⟨_, _, _, rfl, Or.inl (SqL.of hw1), atI_nat (int_at hs), ?_⟩⟩
        refine ⟨_, rfl, ?_⟩
        refine ⟨_, _, rfl, ?_⟩
        rw [decide_eq_true rfl]
        refine ⟨_, rfl, iteF ⟨⟨_, _, rfl⟩, rfl⟩⟩
    · obtain ⟨_, rfl⟩ := hI
      exact k _ f1
end

end LX
namespace LX
open PySem PySem.Spec PyProof.Rows L2 NdefX
/-! ### a row of exchanges -/
inductive Hist (O0 : List Ob) : List (Int × Int) → List Ob → Prop where
  | nil : Hist O0 [] O0
  | snoc {ps : List (Int × Int)} {O : List Ob} {i j : Nat} {a b : Ob} : Hist O0 ps O → O[i]? = some a → O[j]? = some b → a.live = true → b.live = true → Hist O0 (ps ++ [(a.num, b.num)]) (swapO O i j a b)
theorem Hist.pop {O0 O' : List Ob} {ps : List (Int × Int)} {p : Int × Int} (h : Hist O0 (ps ++ [p]) O') : ∃ (O : List Ob) (i j : Nat) (a b : Ob), Hist O0 ps O ∧ O[i]? = some a ∧ O[j]? = some b ∧ a.live = true ∧ b.live = true ∧ p = (a.num, b.num) ∧ O' = swapO O i j a b := by
  generalize e : ps ++ [p] = l at h
  cases h with
  | nil => simp at e
  | @snoc ps2 O i j a b h1 h2 h3 h4 h5 =>
    have e1 := List.append_inj' e rfl
    obtain ⟨e2, e3⟩ := e1
    have e3 : p = (a.num, b.num) := by simpa using e3
    subst e2
    exact ⟨O, i, j, a, b, h1, h2, h3, h4, h5, e3, rfl⟩
theorem swap_length {O : List Ob} {i j : Nat} {a b : Ob} : (swapO O i j a b).length = O.length := by unfold swapO; rw [List.length_set, List.length_set]
theorem Hist.lens {O0 O : List Ob} {ps : List (Int × Int)} (h : Hist O0 ps O) : (flat O).length = (flat O0).length ∧ O.length = O0.length := by
  induction h with
  | nil => exact ⟨rfl, rfl⟩
  | snoc _ ha hb _ _ ih => exact ⟨by rw [swap_len ha hb]; exact ih.1, by rw [swap_length]; exact ih.2⟩
theorem swap_back {O : List Ob} {i j : Nat} {a b : Ob} (ha : O[i]? = some a) (hb : O[j]? = some b) : swapO (swapO O i j a b) j i { b with num := a.num } { a with num := b.num } = O := by
  have h1 : (swapO O i j a b)[j]? = some { b with num := a.num } := by rw [swap_get ha hb, if_pos rfl]
  have h2 : (swapO O i j a b)[i]? = some { a with num := b.num } := by
    rw [swap_get ha hb]
    by_cases e : i = j
    · subst e; rw [ha] at hb; cases hb; rw [if_pos rfl]
    · rw [if_neg e, if_pos rfl]
  refine List.ext_getElem? fun k => ?_
  rw [swap_get h1 h2]
  by_cases e1 : k = i
  · subst e1; rw [if_pos rfl, ha]
  · rw [if_neg e1]
    by_cases e2 : k = j
    · subst e2; rw [if_pos rfl, hb]
    · rw [if_neg e2, swap_get ha hb, if_neg e2, if_neg e1]
theorem Tie.swap {O : List Ob} {T : List (Int × List Int)} {L : List Int} {i j m n : Nat} {a b : Ob} {tm tn : Int × List Int} (D : Tie O T L) (ha : O[i]? = some a) (hb : O[j]? = some b) (la : a.live = true) (lb : b.live = true) (hm : a.num = (m : Int)) (hn : b.num = (n : Int))
    (em : T[m]? = some tm) (en : T[n]? = some tn) (ka : a.kind = tm.1 ∧ a.sl = tm.2) (kb : b.kind = tn.1 ∧ b.sl = tn.2) : Tie (swapO O i j a b) ((T.set m tn).set n tm) L := by
  have hmT := (List.getElem?_eq_some_iff.mp em).1
  have hnT := (List.getElem?_eq_some_iff.mp en).1
  have gT : ∀ k : Nat, ((T.set m tn).set n tm)[k]? = if k = n then some tm else if k = m then some tn else T[k]? := fun k => by
    rw [List.getElem?_set, List.getElem?_set]
    by_cases e : n = k
    · subst e; rw [if_pos rfl, if_pos rfl, if_pos (by rw [List.length_set]; exact hnT)]
    · rw [if_neg e, if_neg (Ne.symm e)]
      by_cases e2 : m = k
      · subst e2; rw [if_pos rfl, if_pos rfl, if_pos hmT]
      · rw [if_neg e2, if_neg (Ne.symm e2)]
  have ij : i = j ↔ a.num = b.num := ⟨fun e => by subst e; rw [ha] at hb; cases hb; rfl, fun e => D.nd i j a b ha hb e⟩
  refine ⟨fun p q x y hp hq e => ?_, fun z => ?_, fun o ho hl => ?_⟩
  · rw [swap_get ha hb] at hp hq
    by_cases p1 : p = j <;> by_cases q1 : q = j
    · omega
    · subst p1
      rw [if_pos rfl] at hp; cases hp
      rw [if_neg q1] at hq
      by_cases q2 : q = i
      · subst q2; rw [if_pos rfl] at hq; cases hq
        exact (D.nd q p a b ha hb e).symm
      · rw [if_neg q2] at hq
        exact absurd (D.nd i q a y ha hq e).symm q2
    · subst q1
      rw [if_pos rfl] at hq; cases hq
      rw [if_neg p1] at hp
      by_cases p2 : p = i
      · subst p2; rw [if_pos rfl] at hp; cases hp
        exact D.nd p q a b ha hb e.symm
      · rw [if_neg p2] at hp
        exact absurd (D.nd p i x a hp ha e) p2
    · rw [if_neg p1] at hp
      rw [if_neg q1] at hq
      by_cases p2 : p = i <;> by_cases q2 : q = i
      · omega
      · subst p2; rw [if_pos rfl] at hp; cases hp
        rw [if_neg q2] at hq
        exact absurd (D.nd j q b y hb hq e).symm q1
      · subst q2; rw [if_pos rfl] at hq; cases hq
        rw [if_neg p2] at hp
        exact absurd (D.nd p j x b hp hb e) p1
      · rw [if_neg p2] at hp; rw [if_neg q2] at hq
        exact D.nd p q x y hp hq e
  · rw [← D.lv]
    constructor
    · rintro ⟨k, o, h1, h2, rfl⟩
      rw [swap_get ha hb] at h1
      by_cases e1 : k = j
      · rw [if_pos e1] at h1; cases h1
        exact ⟨i, a, ha, la, rfl⟩
      · rw [if_neg e1] at h1
        by_cases e2 : k = i
        · rw [if_pos e2] at h1; cases h1
          exact ⟨j, b, hb, lb, rfl⟩
        · rw [if_neg e2] at h1
          exact ⟨k, o, h1, h2, rfl⟩
    · rintro ⟨k, o, h1, h2, rfl⟩
      by_cases e1 : k = i
      · subst e1
        rw [ha] at h1; cases h1
        exact ⟨j, { b with num := a.num }, by rw [swap_get ha hb, if_pos rfl], lb, rfl⟩
      · by_cases e2 : k = j
        · subst e2
          rw [hb] at h1; cases h1
          exact ⟨i, { a with num := b.num }, by rw [swap_get ha hb, if_neg (Ne.symm e1), if_pos rfl], la, rfl⟩
        · exact ⟨k, o, by rw [swap_get ha hb, if_neg e2, if_neg e1]; exact h1, h2, rfl⟩
  · obtain ⟨k, hk⟩ := List.getElem?_of_mem ho
    rw [swap_get ha hb] at hk
    by_cases e1 : k = j
    · rw [if_pos e1] at hk; cases hk
      refine ⟨m, tn, hm, ?_, kb.1, kb.2⟩
      rw [gT]
      by_cases q : m = n
      · rw [if_pos q]
        subst q
        rw [em] at en; exact en
      · rw [if_neg q, if_pos rfl]
    · rw [if_neg e1] at hk
      by_cases e2 : k = i
      · rw [if_pos e2] at hk; cases hk
        exact ⟨n, tm, hn, by rw [gT, if_pos rfl], ka.1, ka.2⟩
      · rw [if_neg e2] at hk
        obtain ⟨kk, t, h1, h2, h3, h4⟩ := D.tn o (List.mem_of_getElem? hk) hl
        refine ⟨kk, t, h1, ?_, h3, h4⟩
        rw [gT, if_neg (fun q => ?_), if_neg (fun q => ?_)]
        · exact h2
        · subst q; exact e2 (D.nd k i o a hk ha (by rw [h1, hm]))
        · subst q; exact e1 (D.nd k j o b hk hb (by rw [h1, hn]))
theorem pickL {L : List Int} (y : Int) (h : L ≠ []) : ∃ n ∈ L, atI (L.map V.int) (y % (L.length : Int)) = some (.int n) := by
  have hp : 0 < L.length := List.length_pos_iff.mpr h
  have e1 := Int.emod_nonneg y (by omega : ((L.length : Int)) ≠ 0)
  have e2 := Int.emod_lt_of_pos y (by omega : (0 : Int) < (L.length : Int))
  generalize y % (L.length : Int) = d at e1 e2
  obtain ⟨k, rfl⟩ : ∃ k : Nat, d = (k : Int) := ⟨d.toNat, by omega⟩
  have hi : k < L.length := by omega
  exact ⟨L[k], List.getElem_mem hi, atI_nat (int_at (List.getElem?_eq_getElem hi))⟩
theorem ThAt.swap {H H' : Hp} {tl : Addr} {A : List (Addr × Addr)} {T : List (Int × List Int)} {m n : Nat} {am an : Addr × Addr} {tm tn : Int × List Int} (R : ThAt H tl A T) (f : Fr [tl] H H') (d : ∀ a ∈ A, a.1 ≠ tl ∧ a.2 ≠ tl) (hm : A[m]? = some am) (hn : A[n]? = some an) (em : T[m]? = some tm) (en : T[n]? = some tn)
    (h : H' tl = some (.lst (((A.set m an).set n am).map fun a => V.ref a.1))) : ThAt H' tl ((A.set m an).set n am) ((T.set m tn).set n tm) := by
  have hmA := (List.getElem?_eq_some_iff.mp hm).1
  have hnA := (List.getElem?_eq_some_iff.mp hn).1
  have hmT := (List.getElem?_eq_some_iff.mp em).1
  have hnT := (List.getElem?_eq_some_iff.mp en).1
  have up : ∀ (a : Addr × Addr) (t : Int × List Int) (k : Nat), A[k]? = some a → T[k]? = some t → H' a.1 = some (.lst [.int t.1, .ref a.2]) ∧ H' a.2 = some (.lst (t.2.map V.int)) := fun a t k ha ht => by
    obtain ⟨t1, t2⟩ := R.it k a t ha ht
    have dd := d a (List.mem_of_getElem? ha)
    exact ⟨f _ _ t1 (by simpa using dd.1), f _ _ t2 (by simpa using dd.2)⟩
  refine ⟨h, by rw [List.length_set, List.length_set, List.length_set, List.length_set]; exact R.len, fun k a t ha ht => ?_⟩
  rw [List.getElem?_set, List.getElem?_set] at ha ht
  by_cases e : n = k
  · rw [if_pos e, if_pos (by rw [List.length_set]; omega)] at ha
    rw [if_pos e, if_pos (by rw [List.length_set]; omega)] at ht
    cases ha; cases ht
    exact up _ _ m hm em
  · rw [if_neg e] at ha ht
    by_cases e2 : m = k
    · rw [if_pos e2, if_pos (by omega)] at ha
      rw [if_pos e2, if_pos (by omega)] at ht
      cases ha; cases ht
      exact up _ _ n hn en
    · rw [if_neg e2] at ha ht
      exact up _ _ k ha ht
/-- what holds between two exchanges -/
structure St3 (C : Addr) (H : Hp) (st dx wl pl tl pA la fA cl : Addr) (A : List (Addr × Addr)) (T : List (Int × List Int)) (L cs : List Int) (O0 O : List Ob) (ps : List (Int × Int)) (PR : List Addr) (kvs : List (Key × V)) (least : Int) : Prop where
  S : StoreAt H C st dx wl pl 100000 100000 least (flat O) kvs
  G : Good O kvs least
  R : ThAt H tl A T
  hL : IsI H la L
  hf : IsI H fA (flat O0)
  hc : IsI H cl cs
  D : Tie O T L
  Hi : Hist O0 ps O
  pa : H pA = some (.lst (PR.map V.ref))
  prl : PR.length = ps.length
  pr : ∀ (i : Nat) (r : Addr) (p : Int × Int), PR[i]? = some r → ps[i]? = some p → H r = some (.tup [.int p.1, .int p.2])
  s1 : tl ∉ [st, wl, pl, pA]
  s2 : pA ∉ [st, wl, pl]
  s3 : la ∉ [st, wl, pl, tl, pA]
  s4 : fA ∉ [st, wl, pl, tl, pA]
  s5 : cl ∉ [st, wl, pl, tl, pA]
  s6 : ∀ a ∈ A, a.1 ∉ [st, wl, pl, tl, pA] ∧ a.2 ∉ [st, wl, pl, tl, pA]
  sz : ∀ t ∈ T, t.2.length ≤ 69
  fl : (flat O).length = (flat O0).length
  ol : O.length = O0.length
theorem St3.keep {C : Addr} {H H' : Hp} {st dx wl pl tl pA la fA cl : Addr} {A : List (Addr × Addr)} {T : List (Int × List Int)} {L cs : List Int} {O0 O : List Ob} {ps : List (Int × Int)} {PR : List Addr} {kvs : List (Key × V)} {least : Int} (Z : St3 C H st dx wl pl tl pA la fA cl A T L cs O0 O ps PR kvs least) (f : Fr [] H H') : St3 C H' st dx wl pl tl pA la fA cl A T L cs O0 O ps PR kvs least :=
  { Z with S := Z.S.keep f (by simp), R := Z.R.mono f, hL := f _ _ Z.hL (by simp), hf := f _ _ Z.hf (by simp), hc := f _ _ Z.hc (by simp), pa := f _ _ Z.pa (by simp), pr := fun i r p h1 h2 => f _ _ (Z.pr i r p h1 h2) (by simp) }

section
variable {P : Program} {w : World} {K : PySem.W.Frag} {mg : Str → Option Value} {base : Heap}
def sp_law3 (K : PySem.W.Frag) (PT : Addr) : Sp := fun vs H Q _ => ∃ (a : Addr) (ns : List Int), vs = [.ref a] ∧ SqL K H a (ns.map V.int) ∧ ns.length ≤ 63 ∧ LamX.TabS H PT qLam ∧ ∀ H', Q (.bl true) H'
theorem ok_law (W : WT P K mg base) : FnOk P w K mg base CX0 4 W.f_law W.fd_law ["_law_script"] (sp_law3 K W.PT_Store_close_up) := by
  refine W.F_law.ok sc_law (fun vs H Q E h => ?_) (fun cdv Ar outer s H vs Q E hr h => ?_)
  · obtain ⟨a, ns, rfl, _⟩ := h
    rfl
  · obtain ⟨a, ns, rfl, hs, hl, hT, k⟩ := h
    have hu1 := hu_of hr
    have hu64 := hu64_of hr
    refine ⟨_, (pss_cons (ps_setLc (i := 1) (own := [("_law_cell", 2)]) (g := gName 2) (tt := tYes) rfl sc_law.nd rfl rfl (sw_true rfl rfl rfl (by decide +kernel)) (pi_list (pv 0)) (blkOk_by (N := N_law) (sc := defScope s_law) (by decide +kernel)) (fun _ _ _ _ _ => (pg_name (i := 2) sc_law.nd rfl (by first | exact Or.inl rfl | exact Or.inr rfl))) (fun _ _ _ _ _ => pts_nil) (fun _ _ _ _ _ => (pe_callTy call_intU (by rfl) W.n_int bb_int (pa_cons (pv 2) pa_nil))))
      (Evl.pss_cut (ps_if (pt_not (pt_truth (pv 1) (by intro _; rfl))) (pss_one (ps_set (i := 1) sc_law.nd rfl (by first | exact Or.inl rfl | exact Or.inr rfl) (pe_lst (pa_cons pe_int pa_nil)))) pss_nil)
      (pss_cons (ps_set (i := 3) sc_law.nd rfl (by first | exact Or.inl rfl | exact Or.inr rfl) (pe_call (ok__law_number W) (hr.mono (by decide)) rfl W.g__law_number W.F__law_number.kp W.b__law_number .nil pass0 (pa_cons (pe_ix (ix_U hu1) (pv 1) pe_int (fun _ _ => rfl)) (pa_cons pe_int pa_nil))))
      (pss_cons (ps_set (i := 4) sc_law.nd rfl (by first | exact Or.inl rfl | exact Or.inr rfl) (pe_make W.M_Store (ok_Store___init__ W) (hr.mono (by decide)) rfl W.g_Store W.b_Store___init__ .nil pass0 (pa_cons pe_int (pa_cons pe_int pa_nil))))
      (pss_cons (ps_set (i := 5) sc_law.nd rfl (by first | exact Or.inl rfl | exact Or.inr rfl) (pe_call (ok__law_built W) (hr.mono (by decide)) rfl W.g__law_built W.F__law_built.kp W.b__law_built .nil pass0 (pa_cons (pv 4) (pa_cons (pv 3) pa_nil))))
      (pss_cons (ps_if (pt_cmpR op_isU (pv 5) pe_non (by first | exact nomark _ | rfl)) (pss_one (ps_ret pe_bl)) pss_nil)
      (pss_cons (ps_setLc (i := 6) (own := [("_law_k", 7)]) (g := gName 7)  rfl sc_law.nd rfl rfl (sw_true rfl rfl rfl (by decide +kernel)) (pi_range1 (by rfl) W.n_range (pa_cons (pe_callB call_lenU (by rfl) W.n_len bb_len (pa_cons (pv 5) pa_nil)) pa_nil)) (blkOk_by (N := N_law) (sc := defScope s_law) (by decide +kernel)) (fun _ _ _ _ _ => (pg_name (i := 7) sc_law.nd rfl (by first | exact Or.inl rfl | exact Or.inr rfl))) (fun _ _ _ _ _ => pts_one (PW.pt (pw_or (pt_cmpR (op_eqUK (K := K) rfl (by exact hu64)) (pv 7) pe_int (by first | exact nomark _ | rfl)) (pw_or1 (pt_cmpR op_gtU (pe_op op_mod (pe_op op_fdivW (pv 3) (pe_op (op_addUK (K := K) rfl) pe_int (pe_op op_mulU (pv 7) pe_int))) pe_int) pe_int (by first | exact nomark _ | rfl)))))) (fun _ _ _ _ _ => (pv 7)))
      (Evl.pss_cut (ps_for PassesOwn.never rfl (pi_range1 (by rfl) W.n_range (pa_cons (pe_callB call_lenU (by rfl) W.n_len bb_len (pa_cons (pv 5) pa_nil)) pa_nil)) (pg_name (i := 7) sc_law.nd rfl (by first | exact Or.inl rfl | exact Or.inr rfl)) (pss_one (ps_if (pt_cmpR (op_ninU hu1) (pv 7) (pv 6) (by first | exact nomark _ | rfl)) (pss_one (ps_expr (pe_meth (pv 4) W.C_Store W.m_Store_drop (ok_Store_drop W) (hr.mono (by decide)) W.b_Store_drop .nil pass0 (pa_cons (pv 7) pa_nil)))) pss_nil)))
      (Evl.pss_cut (ps_if (pt_cmpR (op_eqU hu64) (pe_op op_mod (pe_op op_fdivW (pv 3) pe_int) pe_int) pe_int (by first | exact nomark _ | rfl)) (pss_one (ps_expr (pe_meth0 (pv 4) W.C_Store W.m_Store_close_up (ok_Store_close_up W) (hr.mono (by decide)) W.b_Store_close_up .nil pass0 ))) pss_nil)
      (pss_cons (ps_set (i := 8) sc_law.nd rfl (by first | exact Or.inl rfl | exact Or.inr rfl) (pe_callTy call_list_of (by rfl) W.n_list bb_list (pa_cons (pe_fld (pv 4) rfl) pa_nil)))
      (pss_cons (ps_set (i := 9) sc_law.nd rfl (by first | exact Or.inl rfl | exact Or.inr rfl) (pe_lst pa_nil))
      (Evl.pss_cut (ps_for PassesOwn.never rfl (pi_range2 (by rfl) W.n_range (pa_cons pe_int (pa_cons (pe_callB call_lenU (by rfl) W.n_len bb_len (pa_cons (pv 1) pa_nil)) pa_nil))) (pg_name (i := 7) sc_law.nd rfl (by first | exact Or.inl rfl | exact Or.inr rfl)) (pss_cons (ps_set (i := 10) sc_law.nd rfl (by first | exact Or.inl rfl | exact Or.inr rfl) (pe_call (ok__law_number W) (hr.mono (by decide)) rfl W.g__law_number W.F__law_number.kp W.b__law_number .nil pass0 (pa_cons (pe_ix (ix_U hu1) (pv 1) (pv 7) (fun _ _ => rfl)) (pa_cons (pv 7) pa_nil))))
      (pss_cons (ps_set (i := 11) sc_law.nd rfl (by first | exact Or.inl rfl | exact Or.inr rfl) (pe_ix (ix_U hu1) (pv 6) (pe_op op_mod (pe_callTy call_intU (by rfl) W.n_int bb_int (pa_cons (pv 10) pa_nil)) (pe_callB call_lenU (by rfl) W.n_len bb_len (pa_cons (pv 6) pa_nil))) (fun _ _ => rfl)))
      (pss_cons (ps_set (i := 12) sc_law.nd rfl (by first | exact Or.inl rfl | exact Or.inr rfl) (pe_ix (ix_U hu1) (pv 6) (pe_op op_mod (pe_op op_fdivW (pv 10) pe_int) (pe_callB call_lenU (by rfl) W.n_len bb_len (pa_cons (pv 6) pa_nil))) (fun _ _ => rfl)))
      (pss_cons (ps_set (i := 13) sc_law.nd rfl (by first | exact Or.inl rfl | exact Or.inr rfl) (pe_callTy call_list_of (by rfl) W.n_list bb_list (pa_cons (pe_fld (pv 4) rfl) pa_nil)))
      (pss_cons (ps_expr (pe_meth (pv 4) W.C_Store W.m_Store_exchange (ok_Store_exchange W) (hr.mono (by decide)) W.b_Store_exchange .nil pass0 (pa_cons (pv 11) (pa_cons (pv 12) pa_nil))))
      (pss_cons (ps_set (i := 14) sc_law.nd rfl (by first | exact Or.inl rfl | exact Or.inr rfl) (pe_ix (ix_U hu1) (pv 5) (pv 11) (fun _ _ => rfl)))
      (pss_cons (ps_asg (pe_ix (ix_U hu1) (pv 5) (pv 12) (fun _ _ => rfl)) (pg_sub (pv 5) (pv 11) set_list))
      (pss_cons (ps_asg (pv 14) (pg_sub (pv 5) (pv 12) set_list))
      (pss_cons (ps_expr (pe_bm PySem.F.plainAttrs_list PySem.F.slot_list_append PySem.F.type_list_append mt_append (pv 9) (pa_cons (pe_tup (pa_cons (pv 11) (pa_cons (pv 12) pa_nil))) pa_nil)))
      (pss_cons (ps_if (pt_not (pt_truth (pe_call (ok__law_agrees W) (hr.mono (by decide)) rfl W.g__law_agrees W.F__law_agrees.kp W.b__law_agrees .nil pass0 (pa_cons (pv 4) (pa_cons (pv 5) (pa_cons (pv 6) pa_nil)))) (by intro _; rfl))) (pss_one (ps_ret pe_bl)) pss_nil)
      (pss_one (ps_if (pt_not (pt_truth (pe_call (ok__law_changes W) (hr.mono (by decide)) rfl W.g__law_changes W.F__law_changes.kp W.b__law_changes .nil pass0 (pa_cons (pv 13) (pa_cons (pe_fld (pv 4) rfl) (pa_cons (pv 11) (pa_cons (pv 12) pa_nil))))) (by intro _; rfl))) (pss_one (ps_ret pe_bl)) pss_nil)))))))))))))
      (Evl.pss_cut (ps_for PassesOwn.never rfl (pi_reversed (by rfl) W.n_reversed (pa_cons (pv 9) pa_nil)) (pg_name (i := 15) sc_law.nd rfl (by first | exact Or.inl rfl | exact Or.inr rfl)) (pss_one (ps_expr (pe_meth (pv 4) W.C_Store W.m_Store_exchange (ok_Store_exchange W) (hr.mono (by decide)) W.b_Store_exchange .nil pass0 (pa_cons (pe_ix (ix_U hu1) (pv 15) pe_int (fun _ _ => rfl)) (pa_cons (pe_ix (ix_U hu1) (pv 15) pe_int (fun _ _ => rfl)) pa_nil))))))
      (pss_one (ps_ret (pe_call (ok__law_same W) (hr.mono (by decide)) rfl W.g__law_same W.F__law_same.kp W.b__law_same .nil pass0 (pa_cons (pe_fld (pv 4) rfl) (pa_cons (pv 8) pa_nil)))))))))))))))))), ?_⟩
    -- cells
    refine ⟨_, rfl, a, rfl, ⟨_, hs⟩, fun cl hcl => ?_⟩
    refine lc_list (K := K) (a := a) (xs := ns.map V.int) (fun i H' => H' = upd H cl (.lst ((ns.take i).map V.int))) rfl (fun i H' _ e => ?_) (fun i x H' hx e => ?_) (fun H' e => ?_)
    · subst e
      have same : L2.Same H (upd H cl (.lst ((ns.take i).map V.int))) := fun b u e => by rw [upd_ne (ne_of_none e hcl)]; exact e
      exact same.seq hs
    · subst e
      rw [List.getElem?_map] at hx
      obtain ⟨n, hn, rfl⟩ := Option.map_eq_some_iff.mp hx
      refine ⟨rfl, ?_⟩
      refine ⟨_, rfl, ?_⟩
      refine ⟨_, upd_same, by rw [List.length_map, List.length_take, sizeLine_eq]; omega, ?_⟩
      rw [upd_upd, List.take_succ, hn, List.map_append]
      rfl
    subst e
    rw [List.length_map, List.take_length]
    have hc1 : upd H cl (.lst (ns.map V.int)) cl = some (.lst (ns.map V.int)) := upd_same
    have hT := hT.ext fun b o e => Fr.new (F := []) (o := .lst (ns.map V.int)) hcl b o e (by simp)
    show gName 1 (V.ref cl) _ (upd H cl (.lst (ns.map V.int))) _
    generalize upd H cl (.lst (ns.map V.int)) = H1 at hc1 hT
    -- at least one
    refine ⟨fun σ H' => ∃ (cl2 : Addr) (cs : List Int), σ = (L2.start N_law [V.ref a]).set 1 (some (.ref cl2)) ∧ IsI H' cl2 cs ∧ 1 ≤ cs.length ∧ cs.length ≤ 63 ∧ LamX.TabS H' W.PT_Store_close_up qLam, ?_, ?_⟩
    · refine ⟨_, rfl, _, Or.inl ⟨_, SqL.of hc1, rfl⟩, ?_⟩
      cases ns with
      | nil =>
        refine iteT ?_
        refine ⟨(by show 1 ≤ sizeLine; decide), fun q hq => ?_⟩
        exact ⟨q, [8], rfl, upd_same, by decide, by decide, hT.ext fun b o e => Fr.new (F := []) hq b o e (by simp)⟩
      | cons n0 r0 =>
        refine iteF ?_
        exact ⟨cl, n0 :: r0, rfl, hc1, by simp, hl, hT⟩
    rintro σ H2 ⟨cl2, cs, rfl, hc, hn1, hn63, hT⟩
    have hc0 : cs[0]? = some cs[0] := List.getElem?_eq_getElem (by omega)
    refine ⟨_, rfl, Or.inl ⟨_, _, _, rfl, Or.inl (SqL.of hc), atI_nat (j := 0) (int_at hc0), ?_⟩⟩
    refine ⟨_, _, rfl, by decide, by decide, fun x hx => ?_⟩
    -- the store
    refine fun st dx hst hdx ndx => ?_
    have hx0 : upd H2 dx (.own st) st = none := by rw [upd_ne ndx.symm]; exact hst
    refine ⟨st, dx, 100000, 100000, rfl, upd_same, fun H3 wl pl S3 f3 hwl hpl => ⟨rfl, ?_⟩⟩
    have fS : Fr [] H2 H3 := fun b o e _ => by
      have h1 : upd H2 dx (.own st) b = some o := by rw [upd_ne (ne_of_none e hdx)]; exact e
      exact f3 b o (by rw [upd_ne (ne_of_none h1 hx0)]; exact h1) (ne_of_none e hst)
    have hc := fS _ _ hc (by simp)
    have hT := hT.ext fun b o e => fS b o e (by simp)
    -- the things
    refine ⟨_, rfl, _, rfl, ?_⟩
    refine ⟨st, dx, wl, pl, x, rfl, S3, fun tl A T kvs least H4 L4 hT1 hT9 f4 htl0 hA0 => ?_⟩
    have hT := tab_out hT f4 fun b hb => by
      simp only [List.mem_cons, List.not_mem_nil, or_false] at hb
      rcases hb with e | e | e
      · rw [e]; exact ⟨_, S3.st, (by intro ps z; cases z), (by intro ps z; cases z)⟩
      · rw [e]; exact ⟨_, S3.wl, (by intro ps z; cases z), (by intro ps z; cases z)⟩
      · rw [e]; exact ⟨_, S3.pl, (by intro ps z; cases z), (by intro ps z; cases z)⟩
    have ncl : cl2 ∉ [st, wl, pl] := fun h => by
      simp only [List.mem_cons, List.not_mem_nil, or_false] at h
      rcases h with h | h | h
      · rw [h, S3.st] at hc; cases hc
      · rw [h, S3.wl] at hc
        have hc : HO.lst ([].map V.int) = .lst (cs.map V.int) := Option.some.inj hc
        cases cs with
        | nil => simp at hn1
        | cons => cases hc
      · rw [h, S3.pl] at hc; cases hc
    have nct : cl2 ≠ tl := ne_of_none hc htl0
    have ncA : ∀ a ∈ A, cl2 ≠ a.1 ∧ cl2 ≠ a.2 := fun a ha => ⟨ne_of_none hc (hA0 a ha).1, ne_of_none hc (hA0 a ha).2⟩
    have hc := f4 _ _ hc ncl
    have fl4 := flat_lenB (O := obs 0 T) (m := 69) fun o ho => by
      obtain ⟨t, ht, e⟩ := obs_mem ho
      rw [e]; exact L4.sz t ht
    rw [obs_len] at fl4
    -- not None
    refine ⟨_, rfl, _, rfl, ?_⟩
    refine iteD (fun h => by cases h) (fun _ => ?_)
    -- the living
    refine ⟨_, rfl, Or.inl ⟨_, Or.inl (SqL.of L4.R.tl), ?_⟩⟩
    rw [List.length_map, L4.R.len]
    refine ⟨_, rfl, by omega, by omega, fun lA hlA => ?_⟩
    rw [Int.toNat_natCast]
    refine lc_range (lo := 0) (n := T.length) (fun i H' => ∃ L : List Int, H' = upd H4 lA (.lst (L.map V.int)) ∧ L.Pairwise (· < ·) ∧ (∀ n ∈ L, 0 ≤ n ∧ n < i) ∧ (0 < i → (0 : Int) ∈ L) ∧ L.length ≤ i) ⟨[], rfl, List.Pairwise.nil, fun n h => by simp at h, fun h => absurd h (by omega), Nat.le_refl _⟩ (fun i H' hi e => ?_) (fun H' e => ?_)
    · obtain ⟨L, rfl, l1, l2, l3, l4⟩ := e
      have keep : ∃ L' : List Int, upd (upd H4 lA (.lst (L.map V.int))) lA (.lst (L.map V.int ++ [V.int (0 + (i : Int))])) = upd H4 lA (.lst (L'.map V.int)) ∧ L'.Pairwise (· < ·) ∧ (∀ n ∈ L', 0 ≤ n ∧ n < ((i + 1 : Nat) : Int)) ∧ (0 < i + 1 → (0 : Int) ∈ L') ∧ L'.length ≤ i + 1 := by
        refine ⟨L ++ [(i : Int)], by rw [upd_upd, List.map_append, Int.zero_add]; rfl, ?_, fun n hn => ?_, fun _ => ?_, by rw [List.length_append]; show L.length + 1 ≤ _; omega⟩
        · refine List.pairwise_append.mpr ⟨l1, by simp, fun a ha b hb => ?_⟩
          have hb : b = (i : Int) := by simpa using hb
          have := (l2 a ha).2
          omega
        · rcases List.mem_append.mp hn with h | h
          · have := l2 n h; omega
          · have h : n = (i : Int) := by simpa using h
            omega
        · by_cases z : i = 0
          · subst z; simp
          · exact List.mem_append_left _ (l3 (by omega))
      have skip : i ≠ 0 → ∃ L' : List Int, upd H4 lA (.lst (L.map V.int)) = upd H4 lA (.lst (L'.map V.int)) ∧ L'.Pairwise (· < ·) ∧ (∀ n ∈ L', 0 ≤ n ∧ n < ((i + 1 : Nat) : Int)) ∧ (0 < i + 1 → (0 : Int) ∈ L') ∧ L'.length ≤ i + 1 := fun z =>
        ⟨L, rfl, l1, fun n hn => by have := l2 n hn; omega, fun _ => l3 (by omega), by omega⟩
      refine ⟨rfl, ?_⟩
      refine ⟨_, rfl, rfl, _, rfl, ?_⟩
      refine ite_eq (I_dec _ _) (iteD (fun h0 => ?_) (fun h0 => ?_))
      · refine iteT ?_
        exact ⟨_, rfl, _, upd_same, by rw [List.length_map, sizeLine_eq]; omega, keep⟩
      · refine ⟨_, rfl, _, rfl, Or.inr ⟨by decide, by decide⟩, ?_⟩
        refine ⟨_, _, rfl, rfl, divc _ (by omega) (by omega), ?_⟩
        refine ⟨_, _, rfl, rfl, (by show (0 : Int) < 4; decide), ?_⟩
        refine ⟨_, rfl, ?_⟩
        refine iteD (fun _ => ?_) (fun _ => ?_)
        · exact ⟨_, rfl, _, upd_same, by rw [List.length_map, sizeLine_eq]; omega, keep⟩
        · exact skip (by omega)
    obtain ⟨L, rfl, lpw, lbd, l0, lln⟩ := e
    have l0 := l0 (by omega)
    have f5 : Fr [] H4 (upd H4 lA (.lst (L.map V.int))) := Fr.new hlA
    have hL5 : upd H4 lA (.lst (L.map V.int)) lA = some (.lst (L.map V.int)) := upd_same
    have nlA := new3 L4.S hlA
    have nlt : lA ≠ tl := (ne_of_none L4.R.tl hlA).symm
    have nla : ∀ a ∈ A, lA ≠ a.1 ∧ lA ≠ a.2 := fun a ha => by
      obtain ⟨⟨t, t1⟩, xs, t2⟩ := L4.R.mem ha
      exact ⟨(ne_of_none t1 hlA).symm, (ne_of_none t2 hlA).symm⟩
    show gName 6 (V.ref lA) _ (upd H4 lA (.lst (L.map V.int))) _
    generalize upd H4 lA (.lst (L.map V.int)) = H5 at f5 hL5
    have S5 := L4.S.keep f5 (by simp)
    have R5 := L4.R.mono f5
    have hc := f5 _ _ hc (by simp)
    have hT := hT.ext fun b o e => f5 b o e (by simp)
    -- some are dropped
    refine ⟨fun σ H' => ∃ (v7 : Option V) (O : List Ob) (kvs : List (Key × V)) (least : Int), σ = [some (.ref a), some (.ref cl2), none, some (.int x), some (.ref st), some (.ref tl), some (.ref lA), v7, none, none, none, none, none, none, none, none] ∧ StoreAt H' W.c_Store st dx wl pl 100000 100000 least (flat O) kvs ∧ Good O kvs least ∧ O.length = T.length ∧ (∀ (j : Nat) (o : Ob), O[j]? = some o → o.num = (j : Int) ∧ T[j]? = some (o.kind, o.sl) ∧ (o.live = true ↔ T.length ≤ j ∨ (j : Int) ∈ L)) ∧ Fr [st, pl] H5 H', ?_, ?_⟩
    · refine ⟨_, rfl, Or.inl ⟨_, Or.inl (SqL.of R5.tl), ?_⟩⟩
      rw [List.length_map, R5.len]
      refine ⟨_, rfl, by omega, by omega, ?_⟩
      rw [Int.toNat_natCast]
      refine for_range (lo := 0) (n := T.length) (fun i σ H' => ∃ (v7 : Option V) (O : List Ob) (kvs : List (Key × V)) (least : Int), σ = [some (.ref a), some (.ref cl2), none, some (.int x), some (.ref st), some (.ref tl), some (.ref lA), v7, none, none, none, none, none, none, none, none] ∧ StoreAt H' W.c_Store st dx wl pl 100000 100000 least (flat O) kvs ∧ Good O kvs least ∧ O.length = T.length ∧ (∀ (j : Nat) (o : Ob), O[j]? = some o → o.num = (j : Int) ∧ T[j]? = some (o.kind, o.sl) ∧ (o.live = true ↔ i ≤ j ∨ (j : Int) ∈ L)) ∧ Fr [st, pl] H5 H')
        ⟨_, obs 0 T, _, _, rfl, S5, L4.G, obs_len T 0, fun j o ho => by
          rw [obs_get] at ho
          obtain ⟨t, ht, rfl⟩ := Option.map_eq_some_iff.mp ho
          refine ⟨?_, ht, fun _ => Or.inl (Nat.zero_le _), fun _ => rfl⟩
          show ((0 + j : Nat) : Int) = (j : Int)
          omega, Fr.rfl'⟩ (fun i σ H6 hi hI => ?_) (fun σ H6 hI => hI)
      obtain ⟨v7, O, kv, ls, rfl, S6, G6, ol, hO, f6⟩ := hI
      have hL6 := f6 _ _ hL5 (fun h => nlA (by simp only [List.mem_cons, List.not_mem_nil, or_false] at h ⊢; rcases h with h | h <;> simp [h]))
      refine ⟨_, rfl, _, rfl, Or.inl ⟨_, Or.inl (SqL.of hL6), rfl, flat_ints _, ?_⟩⟩
      rw [in_ints, Int.zero_add]
      refine ⟨_, rfl, ?_⟩
      refine iteND (fun hn => ?_) (fun hn => ?_)
      · have hi2 : i < O.length := by omega
        have ho : O[i]? = some O[i] := List.getElem?_eq_getElem hi2
        generalize O[i] = o at ho
        obtain ⟨o1, o2, o3⟩ := hO i o ho
        have ol2 : o.live = true := o3.mpr (Or.inl (Nat.le_refl _))
        refine ⟨_, rfl, st, dx, _, rfl, S6.st, rfl, ?_⟩
        refine ⟨_, rfl, ?_⟩
        refine ⟨st, dx, wl, pl, _, _, ls, _, kv, o.num, by rw [o1]; rfl, S6, by rw [G6.at ho ol2]; rfl, fun H7 S7 f7 => ?_⟩
        refine ⟨_, O.set i { o with live := false }, _, _, rfl, by rw [flat_kill ho]; exact S7, G6.kill ho ol2 (by omega), by rw [List.length_set]; exact ol, fun j p hp => ?_, f6.trans (Fr.of f7 (by simp) (by simp))⟩
        rw [set_get ho] at hp
        by_cases e : j = i
        · subst e
          rw [if_pos rfl] at hp; cases hp
          refine ⟨o1, o2, (⟨fun h => (nomatch h), fun h => ?_⟩ : _ ↔ _)⟩
          rcases h with h | h
          · omega
          · exact absurd h hn
        · rw [if_neg e] at hp
          obtain ⟨p1, p2, p3⟩ := hO j p hp
          refine ⟨p1, p2, p3.trans ⟨fun h => ?_, fun h => ?_⟩⟩
          · rcases h with h | h
            · left; omega
            · exact Or.inr h
          · rcases h with h | h
            · left; omega
            · exact Or.inr h
      · refine ⟨_, O, kv, ls, rfl, S6, G6, ol, fun j p hp => ?_, f6⟩
        obtain ⟨p1, p2, p3⟩ := hO j p hp
        refine ⟨p1, p2, p3.trans ⟨fun h => ?_, fun h => ?_⟩⟩
        · rcases h with h | h
          · by_cases e : j = i
            · subst e; exact Or.inr hn
            · left; omega
          · exact Or.inr h
        · rcases h with h | h
          · left; omega
          · exact Or.inr h
    rintro σ H6 ⟨v7, O, kv, ls, rfl, S6, G6, ol, hO, f6⟩
    have sub2 : ∀ b, b ∉ [st, wl, pl] → b ∉ [st, pl] := fun b h z => h (by simp only [List.mem_cons, List.not_mem_nil, or_false] at z ⊢; rcases z with h | h <;> simp [h])
    have hL6 := f6 _ _ hL5 (sub2 _ nlA)
    have R6 := R5.keep f6 (sub2 _ L4.d1) fun a ha => ⟨sub2 _ (L4.d2 a ha).1, sub2 _ (L4.d2 a ha).2⟩
    have hc := f6 _ _ hc (sub2 _ ncl)
    have hT := tab_out hT f6 fun b hb => by
      simp only [List.mem_cons, List.not_mem_nil, or_false] at hb
      rcases hb with e | e
      · rw [e]; exact ⟨_, S5.st, (by intro ps z; cases z), (by intro ps z; cases z)⟩
      · rw [e]; exact ⟨_, S5.pl, (by intro ps z; cases z), (by intro ps z; cases z)⟩
    have D6 : Tie O T L := by
      refine ⟨fun p q o o' hp hq e => ?_, fun n => ?_, fun o ho hl => ?_⟩
      · have h1 := (hO p o hp).1
        have h2 := (hO q o' hq).1
        omega
      · constructor
        · rintro ⟨j, o, h1, h2, rfl⟩
          obtain ⟨o1, o2, o3⟩ := hO j o h1
          rcases o3.mp h2 with h | h
          · have := (List.getElem?_eq_some_iff.mp h1).1
            omega
          · rw [o1]; exact h
        · intro hn
          obtain ⟨b0, b1⟩ := lbd n hn
          have hi : n.toNat < O.length := by omega
          have h1 : O[n.toNat]? = some O[n.toNat] := List.getElem?_eq_getElem hi
          obtain ⟨o1, o2, o3⟩ := hO _ _ h1
          have en : ((n.toNat : Nat) : Int) = n := by omega
          exact ⟨_, _, h1, o3.mpr (Or.inr (by rw [en]; exact hn)), by rw [o1, en]⟩
      · obtain ⟨j, hj⟩ := List.getElem?_of_mem ho
        obtain ⟨o1, o2, _⟩ := hO j o hj
        exact ⟨j, _, o1, o2, rfl, rfl⟩
    have osz : ∀ o ∈ O, o.sl.length ≤ 69 := fun o ho => by
      obtain ⟨j, hj⟩ := List.getElem?_of_mem ho
      exact L4.sz _ (List.mem_of_getElem? (hO j o hj).2.1)
    have fl6 := flat_lenB osz
    -- closed up or not
    refine ⟨fun σ H' => ∃ (wl2 pl2 : Addr) (O : List Ob) (kv : List (Key × V)) (ls : Int), σ = [some (.ref a), some (.ref cl2), none, some (.int x), some (.ref st), some (.ref tl), some (.ref lA), v7, none, none, none, none, none, none, none, none] ∧ StoreAt H' W.c_Store st dx wl2 pl2 100000 100000 ls (flat O) kv ∧ Good O kv ls ∧ Tie O T L ∧ (flat O).length ≤ 700 ∧ O.length ≤ 9 ∧ ThAt H' tl A T ∧ IsI H' lA L ∧ IsI H' cl2 cs ∧ tl ∉ [st, wl2, pl2] ∧ lA ∉ [st, wl2, pl2] ∧ cl2 ∉ [st, wl2, pl2] ∧ ∀ a ∈ A, a.1 ∉ [st, wl2, pl2] ∧ a.2 ∉ [st, wl2, pl2], ?_, ?_⟩
    · refine ⟨_, rfl, _, _, rfl, rfl, ⟨by decide, by decide⟩, _, _, rfl, rfl, (by show (0 : Int) < 2; decide), rfl, _, rfl, ?_⟩
      refine iteD (fun _ => ?_) (fun _ => ?_)
      · refine ⟨_, rfl, st, dx, _, rfl, S6.st, rfl, ?_⟩
        refine ⟨st, dx, wl, pl, _, _, ls, kv, O, rfl, S6, G6, by omega, by omega, hT, fun H7 wl2 pl2 S7 T7 f7 hw hp => ?_⟩
        have out : ∀ b xs, H6 b = some (.lst xs) → b ∉ [st] ∧ b ∉ [st, wl2, pl2] := fun b xs e => by
          have h1 : b ≠ st := fun h => by rw [h, S6.st] at e; cases e
          exact ⟨by simpa using h1, not_mem3 h1 (ne_of_none e hw) (ne_of_none e hp)⟩
        have kf : (flat (O.filter (·.live))).length ≤ 72 * (O.filter (·.live)).length := flat_lenB fun o ho => osz o (List.mem_filter.mp ho).1
        have kl := List.length_filter_le (fun o : Ob => o.live) O
        refine ⟨wl2, pl2, O.filter (·.live), _, _, rfl, S7, G6.close, ⟨fun p q o o' hp hq e => ?_, fun n => ?_, fun o ho hl => ?_⟩, by omega, by omega, ⟨f7.lst R6.tl (out _ _ R6.tl).1, R6.len, fun i aa t ha ht => ?_⟩, f7.lst hL6 (out _ _ hL6).1, f7.lst hc (out _ _ hc).1, (out _ _ R6.tl).2, (out _ _ hL6).2, (out _ _ hc).2, fun aa ha => ?_⟩
        · exact G6.close.un p q o o' hp hq (all_live o (List.mem_of_getElem? hp)) (all_live o' (List.mem_of_getElem? hq)) e
        · rw [← D6.lv]
          constructor
          · rintro ⟨i, o, h1, h2, rfl⟩
            obtain ⟨j, hj⟩ := List.getElem?_of_mem (List.mem_filter.mp (List.mem_of_getElem? h1)).1
            exact ⟨j, o, hj, h2, rfl⟩
          · rintro ⟨i, o, h1, h2, rfl⟩
            obtain ⟨j, hj⟩ := List.getElem?_of_mem (List.mem_filter.mpr ⟨List.mem_of_getElem? h1, h2⟩)
            exact ⟨j, o, hj, h2, rfl⟩
        · exact D6.tn o (List.mem_filter.mp ho).1 hl
        · obtain ⟨t1, t2⟩ := R6.it i aa t ha ht
          exact ⟨f7.lst t1 (out _ _ t1).1, f7.lst t2 (out _ _ t2).1⟩
        · obtain ⟨⟨t, t1⟩, xs, t2⟩ := R6.mem ha
          exact ⟨(out _ _ t1).2, (out _ _ t2).2⟩
      · exact ⟨wl, pl, O, kv, ls, rfl, S6, G6, D6, by omega, by omega, R6, hL6, hc, L4.d1, nlA, ncl, L4.d2⟩
    clear hT
    rintro σ H7 ⟨wl2, pl2, O0, kv0, ls0, rfl, S7, G7, D7, fl7, ol7, R7, hL7, hc7, d1, d2, d3, d4⟩
    clear hO S6 G6 ol S5 R5 R6 hL5 hL6 D6 f6 hc osz fl6 f5 S3 f4
    -- first_words
    refine ⟨_, rfl, st, _, dx, _, _, rfl, S7.st, W.C_Store, W.na_Store_words, rfl, ?_⟩
    refine ⟨wl2, _, rfl, Or.inl (SqL.of S7.wl), fun fA hfA => ?_⟩
    have f8 : Fr [] H7 (upd H7 fA (.lst ((flat O0).map V.int))) := Fr.new hfA
    have hf8 : upd H7 fA (.lst ((flat O0).map V.int)) fA = some (.lst ((flat O0).map V.int)) := upd_same
    have e1 := new3 S7 hfA
    have e2 : fA ≠ tl := (ne_of_none R7.tl hfA).symm
    show gName 8 (V.ref fA) _ (upd H7 fA (.lst ((flat O0).map V.int))) _
    generalize upd H7 fA (.lst ((flat O0).map V.int)) = H8 at f8 hf8
    have S8 := S7.keep f8 (by simp)
    have R8 := R7.mono f8
    have hL8 := f8 _ _ hL7 (by simp)
    have hc8 := f8 _ _ hc7 (by simp)
    -- pairs
    refine ⟨(by show 0 ≤ sizeLine; decide), fun pA hpA => ?_⟩
    have f9 : Fr [] H8 (upd H8 pA (.lst [])) := Fr.new hpA
    have hp9 : upd H8 pA (.lst []) pA = some (.lst ([].map V.ref)) := upd_same
    have p1 := new3 S8 hpA
    have p2 : pA ≠ tl := (ne_of_none R8.tl hpA).symm
    have p3 : pA ≠ lA := (ne_of_none hL8 hpA).symm
    have p4 : pA ≠ fA := (ne_of_none hf8 hpA).symm
    have p5 : pA ≠ cl2 := (ne_of_none hc8 hpA).symm
    have p6 : ∀ a ∈ A, a.1 ≠ pA ∧ a.2 ≠ pA := fun a ha => by
      obtain ⟨⟨t, t1⟩, xs, t2⟩ := R8.mem ha
      exact ⟨ne_of_none t1 hpA, ne_of_none t2 hpA⟩
    have m5 : ∀ {b : Addr}, b ∉ [st, wl2, pl2] → b ≠ tl → b ≠ pA → b ∉ [st, wl2, pl2, tl, pA] := fun {b} h1 h2 h3 h => by
      simp only [List.mem_cons, List.not_mem_nil, or_false] at h1 h
      rcases h with h | h | h | h | h
      · exact h1 (Or.inl h)
      · exact h1 (Or.inr (Or.inl h))
      · exact h1 (Or.inr (Or.inr h))
      · exact h2 h
      · exact h3 h
    have Z9 : St3 W.c_Store (upd H8 pA (.lst [])) st dx wl2 pl2 tl pA lA fA cl2 A T L cs O0 O0 [] [] kv0 ls0 :=
      { S := S8.keep f9 (by simp), G := G7, R := R8.mono f9, hL := f9 _ _ hL8 (by simp), hf := f9 _ _ hf8 (by simp), hc := f9 _ _ hc8 (by simp), D := D7, Hi := .nil, pa := hp9, prl := rfl, pr := fun i r p h => by simp at h,
        s1 := fun h => by
          simp only [List.mem_cons, List.not_mem_nil, or_false] at h d1
          rcases h with h | h | h | h
          · exact d1 (Or.inl h)
          · exact d1 (Or.inr (Or.inl h))
          · exact d1 (Or.inr (Or.inr h))
          · exact p2 h.symm
        s2 := p1, s3 := m5 d2 nlt p3.symm, s4 := m5 e1 e2 p4.symm, s5 := m5 d3 nct p5.symm, s6 := fun a ha => ⟨m5 (d4 a ha).1 (L4.d3 a ha).1 (p6 a ha).1, m5 (d4 a ha).2 (L4.d3 a ha).2 (p6 a ha).2⟩, sz := L4.sz, fl := rfl, ol := rfl }
    show gName 9 (V.ref pA) _ (upd H8 pA (.lst [])) _
    generalize upd H8 pA (.lst []) = H9 at Z9
    have ndL : L.Nodup := lpw.imp fun h e => by omega
    have ascL : L.Pairwise (· ≤ ·) := lpw.imp fun h => by omega
    have Lne : L ≠ [] := fun e => by rw [e] at l0; simp at l0
    have Lp : 0 < L.length := List.length_pos_iff.mpr Lne
    -- the exchanges
    refine ⟨fun σ H' => ∃ (v7 v10 v11 v12 v13 v14 : Option V) (A : List (Addr × Addr)) (T : List (Int × List Int)) (O : List Ob) (ps : List (Int × Int)) (PR : List Addr) (kv : List (Key × V)) (ls : Int), σ = [some (.ref a), some (.ref cl2), none, some (.int x), some (.ref st), some (.ref tl), some (.ref lA), v7, some (.ref fA), some (.ref pA), v10, v11, v12, v13, v14, none] ∧ St3 W.c_Store H' st dx wl2 pl2 tl pA lA fA cl2 A T L cs O0 O ps PR kv ls ∧ ps.length ≤ 63, ?_, ?_⟩
    · refine ⟨_, rfl, Or.inl ⟨_, Or.inl (SqL.of Z9.hc), ?_⟩⟩
      rw [List.length_map]
      refine ⟨1, _, rfl, ⟨by decide, by decide, by omega, by omega⟩, for_range (lo := 1) (n := ((cs.length : Int) - 1).toNat) (fun i σ H' => ∃ (v7 v10 v11 v12 v13 v14 : Option V) (A : List (Addr × Addr)) (T : List (Int × List Int)) (O : List Ob) (ps : List (Int × Int)) (PR : List Addr) (kv : List (Key × V)) (ls : Int), σ = [some (.ref a), some (.ref cl2), none, some (.int x), some (.ref st), some (.ref tl), some (.ref lA), v7, some (.ref fA), some (.ref pA), v10, v11, v12, v13, v14, none] ∧ St3 W.c_Store H' st dx wl2 pl2 tl pA lA fA cl2 A T L cs O0 O ps PR kv ls ∧ ps.length = i)
        ⟨_, _, _, _, _, _, A, T, O0, [], [], kv0, ls0, rfl, Z9, rfl⟩ (fun i σ H10 hi hI => ?_) (fun σ H10 hI => ?_)⟩
      · obtain ⟨v7, v10, v11, v12, v13, v14, A, T, O, ps, PR, kv, ls, rfl, Z, hps⟩ := hI
        have hci : cs[1 + i]? = some cs[1 + i] := List.getElem?_eq_getElem (by omega)
        refine ⟨_, rfl, _, rfl, Or.inl ⟨_, _, _, rfl, Or.inl (SqL.of Z.hc), by rw [show (1 : Int) + (i : Int) = ((1 + i : Nat) : Int) by omega]; exact atI_nat (int_at hci), ?_⟩⟩
        refine ⟨_, rfl, ?_⟩
        refine ⟨_, _, rfl, by omega, by omega, fun y hy => ?_⟩
        -- first, second
        obtain ⟨m0, hm0, am⟩ := pickL y Lne
        obtain ⟨n0, hn0, an⟩ := pickL (y / 16) Lne
        refine ⟨_, rfl, _, rfl, _, rfl, Or.inl ⟨_, Or.inl (SqL.of Z.hL), ?_⟩⟩
        rw [List.length_map]
        refine ⟨_, _, rfl, rfl, (by show (0 : Int) < _; omega), ?_⟩
        refine Or.inl ⟨_, _, _, rfl, Or.inl (SqL.of Z.hL), am, ?_⟩
        refine ⟨_, rfl, _, rfl, _, _, rfl, rfl, ⟨by decide, by decide⟩, ?_⟩
        refine ⟨_, rfl, Or.inl ⟨_, Or.inl (SqL.of Z.hL), ?_⟩⟩
        rw [List.length_map]
        refine ⟨_, _, rfl, rfl, (by show (0 : Int) < _; omega), ?_⟩
        refine Or.inl ⟨_, _, _, rfl, Or.inl (SqL.of Z.hL), an, ?_⟩
        obtain ⟨i1, m, o, tm, ho, lo, om, em, htm, ko, so⟩ := Z.D.get hm0
        obtain ⟨j1, n, p, tn, hp, lp, pn, en, htn, kp, sp⟩ := Z.D.get hn0
        -- before
        refine ⟨_, rfl, st, _, dx, _, _, rfl, Z.S.st, W.C_Store, W.na_Store_words, rfl, ?_⟩
        refine ⟨wl2, _, rfl, Or.inl (SqL.of Z.S.wl), fun bA hbA => ?_⟩
        have g1 : Fr [] H10 (upd H10 bA (.lst ((flat O).map V.int))) := Fr.new hbA
        have hb1 : upd H10 bA (.lst ((flat O).map V.int)) bA = some (.lst ((flat O).map V.int)) := upd_same
        have nb : bA ∉ [st, wl2, pl2] := new3 Z.S hbA
        have nbt : bA ≠ tl := (ne_of_none Z.R.tl hbA).symm
        have nbp : bA ≠ pA := (ne_of_none Z.pa hbA).symm
        have Z1 := Z.keep g1
        show gName 13 (V.ref bA) _ (upd H10 bA (.lst ((flat O).map V.int))) _
        generalize upd H10 bA (.lst ((flat O).map V.int)) = H11 at hb1 Z1
        -- exchange
        have z1 := off_lt ho
        have z2 := off_lt hp
        have z3 := Z.fl
        have z4 := Z.ol
        have z5 := Z.G.kl
        refine ⟨_, rfl, st, dx, _, rfl, Z1.S.st, rfl, ?_⟩
        refine ⟨_, rfl, _, rfl, ?_⟩
        refine ⟨st, dx, wl2, pl2, _, _, ls, _, kv, o.num, p.num, off O i1, off O j1, by rw [om, pn]; rfl, Z1.S, Z1.G.at ho lo, Z1.G.at hp lp, by omega, by omega, by rw [sizeLine_eq]; omega, fun H12 S12 f12 => ?_⟩
        rw [swap_flat ho hp] at S12
        have g2 : Fr [wl2, pl2] H11 H12 := Fr.of f12 (by simp) (by simp)
        have G12 := Z1.G.swap ho hp lo lp
        have sub : ∀ b, b ∉ [st, wl2, pl2, tl, pA] → b ∉ [wl2, pl2] := fun b h z => h (by
          simp only [List.mem_cons, List.not_mem_nil, or_false] at z ⊢
          rcases z with z | z <;> simp [z])
        have sub3 : ∀ b, b ∉ [st, wl2, pl2] → b ∉ [wl2, pl2] := fun b h z => h (by
          simp only [List.mem_cons, List.not_mem_nil, or_false] at z ⊢
          rcases z with z | z <;> simp [z])
        have sub4 : ∀ b, b ∉ [st, wl2, pl2, pA] → b ∉ [wl2, pl2] := fun b h z => h (by
          simp only [List.mem_cons, List.not_mem_nil, or_false] at z ⊢
          rcases z with z | z <;> simp [z])
        have R12 := Z1.R.keep g2 (sub4 _ Z1.s1) fun aa ha => ⟨sub _ (Z1.s6 aa ha).1, sub _ (Z1.s6 aa ha).2⟩
        have hb12 := g2 _ _ hb1 (sub3 _ nb)
        have hL12 := g2 _ _ Z1.hL (sub _ Z1.s3)
        have hf12 := g2 _ _ Z1.hf (sub _ Z1.s4)
        have hc12 := g2 _ _ Z1.hc (sub _ Z1.s5)
        have hp12 := g2 _ _ Z1.pa (sub3 _ Z1.s2)
        have tupne : ∀ (F : List Addr) (b : Addr) (xs : List V), (∀ c ∈ F, ∃ o, H11 c = some o ∧ ∀ xs, o ≠ .tup xs) → H11 b = some (.tup xs) → b ∉ F := fun F b xs h1 h2 h3 => by
          obtain ⟨o, h4, h5⟩ := h1 b h3
          rw [h2] at h4; exact h5 xs (Option.some.inj h4).symm
        have pr12 : ∀ (i : Nat) (r : Addr) (p : Int × Int), PR[i]? = some r → ps[i]? = some p → H12 r = some (.tup [.int p.1, .int p.2]) := fun ii r pp h1 h2 => by
          have h3 := Z1.pr ii r pp h1 h2
          refine g2 _ _ h3 (tupne _ _ _ (fun c hc => ?_) h3)
          simp only [List.mem_cons, List.not_mem_nil, or_false] at hc
          rcases hc with hc | hc
          · rw [hc]; exact ⟨_, Z1.S.wl, fun xs z => by cases z⟩
          · rw [hc]; exact ⟨_, Z1.S.pl, fun xs z => by cases z⟩
        obtain ⟨aM, haM, rM, t1, t2⟩ := R12.get htm
        obtain ⟨aN, haN, rN, u1, u2⟩ := R12.get htn
        subst em en
        -- one = things[first]
        refine ⟨_, rfl, _, rfl, Or.inl ⟨_, _, _, rfl, Or.inl (SqL.of R12.tl), atI_nat rM, ?_⟩⟩
        -- things[first] = things[second]
        refine ⟨_, rfl, _, rfl, Or.inl ⟨_, _, _, rfl, Or.inl (SqL.of R12.tl), atI_nat rN, ?_⟩⟩
        have lM := (List.getElem?_eq_some_iff.mp haM).1
        have lN := (List.getElem?_eq_some_iff.mp haN).1
        refine ⟨_, rfl, _, rfl, tl, _, _, m, rfl, rfl, R12.tl, ixN_nat (by rw [List.length_map]; exact lM), ?_⟩
        -- things[second] = one
        refine ⟨_, rfl, ?_⟩
        refine ⟨_, rfl, _, rfl, tl, _, _, n, rfl, rfl, upd_same, ixN_nat (by rw [List.length_set, List.length_map]; exact lN), ?_⟩
        rw [upd_upd]
        have es : (((A.map fun a => V.ref a.1).set m (.ref aN.1)).set n (.ref aM.1)) = ((A.set m aN).set n aM).map fun a => V.ref a.1 := by rw [List.map_set, List.map_set]
        rw [es]
        have g3 : Fr [tl] H12 (upd H12 tl (.lst (((A.set m aN).set n aM).map fun a => V.ref a.1))) := Fr.at (by simp)
        have d3 : ∀ aa ∈ A, aa.1 ≠ tl ∧ aa.2 ≠ tl := fun aa ha => ⟨fun h => (Z1.s6 aa ha).1 (by simp [h]), fun h => (Z1.s6 aa ha).2 (by simp [h])⟩
        have R13 := R12.swap g3 d3 haM haN htm htn upd_same
        have ntl : tl ∉ [st, wl2, pl2] := fun h => Z1.s1 (by simp only [List.mem_cons, List.not_mem_nil, or_false] at h ⊢; rcases h with h | h | h <;> simp [h])
        have S13 := S12.keep g3 (fun b hb h => by
          have h : b = tl := by simpa using h
          rw [h] at hb; exact ntl hb)
        have hb13 := g3 _ _ hb12 (by simpa using nbt)
        have ne5 : ∀ b, b ∉ [st, wl2, pl2, tl, pA] → b ≠ tl ∧ b ≠ pA := fun b h => ⟨fun e => h (by simp [e]), fun e => h (by simp [e])⟩
        have npt : pA ≠ tl := fun e => Z1.s1 (by simp [e])
        have hL13 := g3 _ _ hL12 (by simpa using (ne5 _ Z1.s3).1)
        have hf13 := g3 _ _ hf12 (by simpa using (ne5 _ Z1.s4).1)
        have hc13 := g3 _ _ hc12 (by simpa using (ne5 _ Z1.s5).1)
        have hp13 := g3 _ _ hp12 (by simpa using npt)
        have pr13 : ∀ (i : Nat) (r : Addr) (p : Int × Int), PR[i]? = some r → ps[i]? = some p → upd H12 tl (.lst (((A.set m aN).set n aM).map fun a => V.ref a.1)) r = some (.tup [.int p.1, .int p.2]) := fun ii r pp h1 h2 => by
          have h3 := pr12 ii r pp h1 h2
          exact g3 _ _ h3 (by simpa using ne_of h3 R12.tl (by intro z; cases z))
        generalize upd H12 tl (.lst (((A.set m aN).set n aM).map fun a => V.ref a.1)) = H13 at R13 S13 hb13 hL13 hf13 hc13 hp13 pr13
        -- the pair
        refine ⟨_, rfl, Or.inl ⟨rfl, _, SqL.of hp13⟩, ?_⟩
        refine ⟨_, rfl, _, rfl, ?_⟩
        refine ⟨(by show 2 ≤ sizeLine; decide), fun tA htA => ?_⟩
        have g4 : Fr [] H13 (upd H13 tA (.tup [V.int (m : Int), .int (n : Int)])) := Fr.new htA
        have ht14 : upd H13 tA (.tup [V.int (m : Int), .int (n : Int)]) tA = some (.tup [V.int (m : Int), .int (n : Int)]) := upd_same
        have R14 := R13.mono g4
        have S14 := S13.keep g4 (by simp)
        have hb14 := g4 _ _ hb13 (by simp)
        have hL14 := g4 _ _ hL13 (by simp)
        have hf14 := g4 _ _ hf13 (by simp)
        have hc14 := g4 _ _ hc13 (by simp)
        have hp14 := g4 _ _ hp13 (by simp)
        have pr14 : ∀ (i : Nat) (r : Addr) (p : Int × Int), PR[i]? = some r → ps[i]? = some p → upd H13 tA (.tup [V.int (m : Int), .int (n : Int)]) r = some (.tup [.int p.1, .int p.2]) := fun ii r pp h1 h2 => g4 _ _ (pr13 ii r pp h1 h2) (by simp)
        generalize upd H13 tA (.tup [V.int (m : Int), .int (n : Int)]) = H14 at ht14 R14 S14 hb14 hL14 hf14 hc14 hp14 pr14
        refine ⟨pA, _, _, rfl, rfl, hp14, by rw [List.length_map, Z1.prl, sizeLine_eq]; omega, ?_⟩
        have e8 : PR.map V.ref ++ [V.ref tA] = (PR ++ [tA]).map V.ref := by rw [List.map_append]; rfl
        rw [e8]
        have g5 : Fr [pA] H14 (upd H14 pA (.lst ((PR ++ [tA]).map V.ref))) := Fr.at (by simp)
        have hpa := Z1.s2
        have S15 := S14.keep g5 (fun b hb h => by
          have h : b = pA := by simpa using h
          rw [h] at hb; exact hpa hb)
        have mem2 : ∀ aa ∈ (A.set m aN).set n aM, aa ∈ A := fun aa h => by
          rcases List.mem_or_eq_of_mem_set h with h | h
          · rcases List.mem_or_eq_of_mem_set h with h | h
            · exact h
            · rw [h]; exact List.mem_of_getElem? haN
          · rw [h]; exact List.mem_of_getElem? haM
        have R15 := R14.keep g5 (by simpa using npt.symm) fun aa ha => ⟨by simpa using (ne5 _ (Z1.s6 aa (mem2 aa ha)).1).2, by simpa using (ne5 _ (Z1.s6 aa (mem2 aa ha)).2).2⟩
        have hb15 := g5 _ _ hb14 (by simpa using nbp)
        have D15 := Z1.D.swap ho hp lo lp om pn htm htn ⟨ko, so⟩ ⟨kp, sp⟩
        have Hi15 : Hist O0 (ps ++ [((m : Int), (n : Int))]) (swapO O i1 j1 o p) := by
          have := Z1.Hi.snoc ho hp lo lp
          rw [om, pn] at this
          exact this
        have Z2 : St3 W.c_Store (upd H14 pA (.lst ((PR ++ [tA]).map V.ref))) st dx wl2 pl2 tl pA lA fA cl2 ((A.set m aN).set n aM) ((T.set m tn).set n tm) L cs O0 (swapO O i1 j1 o p) (ps ++ [((m : Int), (n : Int))]) (PR ++ [tA]) _ ls :=
          { S := S15, G := G12, R := R15, hL := g5 _ _ hL14 (by simpa using (ne5 _ Z1.s3).2), hf := g5 _ _ hf14 (by simpa using (ne5 _ Z1.s4).2), hc := g5 _ _ hc14 (by simpa using (ne5 _ Z1.s5).2), D := D15, Hi := Hi15, pa := upd_same,
            prl := by rw [List.length_append, List.length_append, Z1.prl]; rfl,
            pr := fun ii r pp h1 h2 => by
              have key : H14 r = some (.tup [.int pp.1, .int pp.2]) := by
                rcases get_snoc h1 with h3 | ⟨h3, rfl⟩
                · have := (List.getElem?_eq_some_iff.mp h3).1
                  rw [List.getElem?_append_left (by rw [← Z1.prl]; exact this)] at h2
                  exact pr14 ii r pp h3 h2
                · rw [h3, Z1.prl, List.getElem?_append_right (Nat.le_refl _), Nat.sub_self] at h2
                  cases h2
                  exact ht14
              exact g5 _ _ key (by simpa using ne_of key hp14 (by intro z; cases z)),
            s1 := Z1.s1, s2 := Z1.s2, s3 := Z1.s3, s4 := Z1.s4, s5 := Z1.s5, s6 := fun aa ha => Z1.s6 aa (mem2 aa ha),
            sz := fun t ht => by
              rcases List.mem_or_eq_of_mem_set ht with h | h
              · rcases List.mem_or_eq_of_mem_set h with h | h
                · exact Z1.sz t h
                · rw [h]; exact Z1.sz _ (List.mem_of_getElem? htn)
              · rw [h]; exact Z1.sz _ (List.mem_of_getElem? htm),
            fl := by rw [swap_len ho hp]; exact Z1.fl, ol := by rw [swap_length]; exact Z1.ol }
        generalize upd H14 pA (.lst ((PR ++ [tA]).map V.ref)) = H15 at Z2 hb15
        -- agrees
        refine ⟨_, rfl, _, rfl, _, rfl, ?_⟩
        refine ⟨st, dx, wl2, pl2, ls, _, _, tl, _, _, lA, L, rfl, Z2.S, Z2.G, Z2.R, Z2.hL, Z2.D, ndL, ascL, Z2.sz, by omega, fun H16 g6 => ?_⟩
        refine ⟨_, rfl, iteF ?_⟩
        have Z3 := Z2.keep g6
        have hb16 := g6 _ _ hb15 (by simp)
        -- changes
        refine ⟨_, rfl, _, rfl, st, _, dx, _, _, rfl, Z3.S.st, W.C_Store, W.na_Store_words, rfl, ?_⟩
        refine ⟨_, rfl, _, rfl, ?_⟩
        refine ⟨bA, wl2, O, i1, j1, o, p, by rw [om, pn]; rfl, hb16, Z3.S.wl, ho, hp, by omega, Z1.D.nd, fun H17 g7 => ?_⟩
        refine ⟨_, rfl, iteF ?_⟩
        exact ⟨_, _, _, _, _, _, _, _, _, _, _, _, _, rfl, Z3.keep g7, by rw [List.length_append, hps]; rfl⟩
      · obtain ⟨v7, v10, v11, v12, v13, v14, A, T, O, ps, PR, kv, ls, rfl, Z, hps⟩ := hI
        exact ⟨_, _, _, _, _, _, _, _, _, _, _, _, _, rfl, Z, by omega⟩
    rintro σ H10 ⟨v7, v10, v11, v12, v13, v14, A, T, O, ps, PR, kv, ls, rfl, Z, hps⟩
    -- back again
    have tupne : ∀ (b : Addr) (xs : List V), H10 b = some (.tup xs) → b ∉ [wl2, pl2] := fun b xs h2 h3 => by
      simp only [List.mem_cons, List.not_mem_nil, or_false] at h3
      rcases h3 with h | h
      · rw [h, Z.S.wl] at h2; cases h2
      · rw [h, Z.S.pl] at h2; cases h2
    have sub3 : ∀ b, b ∉ [st, wl2, pl2] → b ∉ [wl2, pl2] := fun b h z => h (by
      simp only [List.mem_cons, List.not_mem_nil, or_false] at z ⊢
      rcases z with z | z <;> simp [z])
    have sub : ∀ b, b ∉ [st, wl2, pl2, tl, pA] → b ∉ [wl2, pl2] := fun b h z => h (by
      simp only [List.mem_cons, List.not_mem_nil, or_false] at z ⊢
      rcases z with z | z <;> simp [z])
    refine ⟨fun σ H' => ∃ (v15 : Option V) (kv : List (Key × V)) (ls : Int), σ = [some (.ref a), some (.ref cl2), none, some (.int x), some (.ref st), some (.ref tl), some (.ref lA), v7, some (.ref fA), some (.ref pA), v10, v11, v12, v13, v14, v15] ∧ StoreAt H' W.c_Store st dx wl2 pl2 100000 100000 ls (flat O0) kv ∧ IsI H' fA (flat O0), ?_, ?_⟩
    · refine ⟨_, rfl, pA, _, rfl, SqL.of Z.pa, RT.for_Itv (K := K) (a := pA) (xs := PR.map V.ref) (fun t σ H' => ∃ (v15 : Option V) (O : List Ob) (kv : List (Key × V)) (ls : Int), σ = [some (.ref a), some (.ref cl2), none, some (.int x), some (.ref st), some (.ref tl), some (.ref lA), v7, some (.ref fA), some (.ref pA), v10, v11, v12, v13, v14, v15] ∧ StoreAt H' W.c_Store st dx wl2 pl2 100000 100000 ls (flat O) kv ∧ Good O kv ls ∧ Hist O0 (ps.take (ps.length - t)) O ∧ Fr [wl2, pl2] H10 H') ⟨_, O, _, _, rfl, Z.S, Z.G, by rw [Nat.sub_zero, List.take_length]; exact Z.Hi, Fr.rfl'⟩ (fun t σ H' hI => ?_) (fun t xx σ H11 ht hx hI => ?_) (fun σ H11 hI => ?_)⟩
      · obtain ⟨v15, O, kv, ls, rfl, _, _, _, g⟩ := hI
        exact SqL.of (g _ _ Z.pa (sub3 _ Z.s2))
      · obtain ⟨v15, O1, kv1, ls1, rfl, S1, G1, Hi1, g⟩ := hI
        rw [List.length_map] at ht hx
        rw [List.getElem?_map] at hx
        obtain ⟨r, hr1, rfl⟩ := Option.map_eq_some_iff.mp hx
        have hlt : PR.length - 1 - t < ps.length := by rw [← Z.prl]; omega
        have hpp : ps[PR.length - 1 - t]? = some ps[PR.length - 1 - t] := List.getElem?_eq_getElem hlt
        have htup := Z.pr _ r _ hr1 hpp
        generalize ps[PR.length - 1 - t] = pp at hpp htup
        have etk : ps.take (ps.length - t) = ps.take (PR.length - 1 - t) ++ [pp] := by
          rw [show ps.length - t = (PR.length - 1 - t) + 1 by rw [← Z.prl]; omega, List.take_succ, hpp]; rfl
        rw [etk] at Hi1
        have lens := Hi1.lens
        obtain ⟨O2, i, j, o, p, Hi2, ho, hp, lo, lp, rfl, rfl⟩ := Hi1.pop
        have htup := g _ _ htup (tupne _ _ htup)
        have h1 : (swapO O2 i j o p)[j]? = some { p with num := o.num } := by rw [swap_get ho hp, if_pos rfl]
        have h2 : (swapO O2 i j o p)[i]? = some { o with num := p.num } := by
          rw [swap_get ho hp]
          by_cases e : i = j
          · subst e; rw [ho] at hp; cases hp; rw [if_pos rfl]
          · rw [if_neg e, if_pos rfl]
        have v1 : valV kv1 (.inl o.num) = some (.int (off (swapO O2 i j o p) j : Nat)) := Good.at (o := { p with num := o.num }) G1 h1 lp
        have v2 : valV kv1 (.inl p.num) = some (.int (off (swapO O2 i j o p) i : Nat)) := Good.at (o := { o with num := p.num }) G1 h2 lo
        have z1 := off_lt h1
        have z2 := off_lt h2
        have z5 := G1.kl
        refine ⟨_, rfl, st, dx, _, rfl, S1.st, rfl, ?_⟩
        refine ⟨_, rfl, Or.inl ⟨_, _, _, rfl, Or.inr (SqT.of htup), rfl, ?_⟩⟩
        refine ⟨_, rfl, Or.inl ⟨_, _, _, rfl, Or.inr (SqT.of htup), rfl, ?_⟩⟩
        refine ⟨st, dx, wl2, pl2, _, _, ls1, _, kv1, o.num, p.num, off (swapO O2 i j o p) j, off (swapO O2 i j o p) i, rfl, S1, v1, v2, by omega, by omega, by rw [sizeLine_eq]; omega, fun H12 S12 f12 => ?_⟩
        have e0 := swap_flat h1 h2
        rw [swap_back ho hp] at e0
        have e0 : ((flat (swapO O2 i j o p)).set (off (swapO O2 i j o p) j) p.num).set (off (swapO O2 i j o p) i) o.num = flat O2 := e0
        rw [e0] at S12
        have G12 := G1.swap h1 h2 lp lo
        rw [swap_back ho hp] at G12
        refine ⟨_, O2, _, _, rfl, S12, G12, ?_, g.trans (Fr.of f12 (by simp) (by simp))⟩
        rw [show ps.length - (t + 1) = PR.length - 1 - t by rw [← Z.prl]; omega]
        exact Hi2
      · obtain ⟨v15, O1, kv1, ls1, rfl, S1, G1, Hi1, g⟩ := hI
        rw [List.length_map, Z.prl, Nat.sub_self, List.take_zero] at Hi1
        have e : O1 = O0 := by
          generalize e : ([] : List (Int × Int)) = l at Hi1
          cases Hi1 with
          | nil => rfl
          | snoc => simp at e
        subst e
        exact ⟨_, kv1, ls1, rfl, S1, g _ _ Z.hf (sub _ Z.s4)⟩
    rintro σ H11 ⟨v15, kv1, ls1, rfl, S1, hf1⟩
    refine ⟨_, rfl, st, _, dx, _, _, rfl, S1.st, W.C_Store, W.na_Store_words, rfl, ?_⟩
    refine ⟨_, rfl, ?_⟩
    exact ⟨wl2, fA, flat O0, rfl, S1.wl, hf1, by omega, k _⟩
end

end LX
namespace LX
open PySem PySem.Spec PyProof.Rows L2 NdefX

theorem all_mk {l : PySem.W.OpenLaw} {w : World} {K : PySem.W.Frag} {mg : Str → Option Value} {fa : Addr} {h : Heap} (W : Wd l.prog K mg) (hfa : mg "law" = some (.ref fa)) (KX : K.In h) (hP : h.get? W.PT_Store_close_up = some { cls := .none, data := .fields #[] }) :
    LamX.LawAtS l w K CX0 4 63 "_law_script" mg fa h := by
  have e := hfa.symm.trans W.g_law
  cases e
  obtain ⟨oc, od, kV, doc, pm, an, cdv, ct, osl, e, _, _⟩ := W.F_law.ex
  refine ⟨W.fd_law, [(W.cA_Store_close_up, W.PT_Store_close_up)], sp_law3 K W.PT_Store_close_up, fun p hp => ?_, fun p hp => ?_, fun p hp => ?_, fun s v => by rw [e]; exact .of_eq rfl, fun H a ns hl _ hT hS => ⟨a, ns, rfl, hS, hl, LamX.TabS.nil (hT _ (List.mem_singleton.mpr rfl)), fun _ => rfl⟩, fun base _ _ hTB => ok_law ⟨W, hTB _ (List.mem_singleton.mpr rfl)⟩⟩
  · cases List.mem_singleton.mp hp; exact hP
  · cases List.mem_singleton.mp hp; exact W.np_Store_close_up
  · cases List.mem_singleton.mp hp; exact PySem.W.codeHd_of_K KX W.hd_Store_close_up
theorem walk {l : PySem.W.OpenLaw} {q : Program} {loose : List Str} {XP : (Str → Option Value) → Heap → Prop} {YP : World → Heap → Prop} {d : DefRec} {K : Params → PySem.W.Frag} (hn : l.most = some 63) (hdf : d.params.defaults = [])
    (hY : ∀ (w : World) (h : Heap), YP w h → (K w.params).In h)
    (F : ∀ (w : World) (mg : Str → Option Value) (fa : Addr) (h : Heap), YP w h → (K w.params).In h → h.Ns mainGlobals mg → mg d.name = some (.ref fa) → LamX.LawAtS l w (K w.params) CX0 4 63 "_law_script" mg fa h) :
    PySem.W.WalkO q loose XP YP l.row.toRowW d [] (fun f vs => PySem.call f vs) :=
  LamX.walk_ofTs (n := 63) (k := 4) (x := "_law_script") (CX := fun _ => CX0) hn (by decide) hdf ⟨rfl, by decide, by decide⟩ hY F fun _ _ _ _ _ z => z

end LX

open PySem PySem.W PyProof.Rows
set_option maxRecDepth 100000 in
set_option maxHeartbeats 0 in
theorem PySem.Challenge.cw_saggar_k03_exchange_by_numbers_holds : PySem.Challenge.rw_saggar_k03_exchange_by_numbers.Holds := by
  w_on; o_law; k_head; (case hw => w_witness2)
  k_fill
  refine LX.walk (l := PySem.Challenge.rw_saggar_k03_exchange_by_numbers) rfl rfl (fun w h Y => PySem.W.km_in_of Y) ?F
  case F =>
    intro w mg fa h Y KX G hmg
    refine' LX.all_mk (l := PySem.Challenge.rw_saggar_k03_exchange_by_numbers) (LX.mkW KX G ?z_bool ?z_int ?z_isinstance ?z_len ?z_list ?z_min ?z_range ?z_reversed ?z_sorted ?c_NIL ?c_HEADER ?cl_Store ?pg_Store ?hd_Store ?po_Store ?sa_Store ?mk_Store ?kp_Store ?na_Store_room ?na_Store_entries ?na_Store_words ?na_Store__places ?na_Store__least ?a_Store___init__ ?l_Store___init__ ?c_Store___init__ ?k_Store___init__ ?fn_Store___init__ ?a_Store_numbers ?l_Store_numbers ?c_Store_numbers ?k_Store_numbers ?fn_Store_numbers ?a_Store_free_number ?l_Store_free_number ?c_Store_free_number ?k_Store_free_number ?fn_Store_free_number ?a_Store_allocate ?l_Store_allocate ?c_Store_allocate ?k_Store_allocate ?fn_Store_allocate ?a_Store_size ?l_Store_size ?c_Store_size ?k_Store_size ?fn_Store_size ?a_Store_kind ?l_Store_kind ?c_Store_kind ?k_Store_kind ?fn_Store_kind ?a_Store_get ?l_Store_get ?c_Store_get ?k_Store_get ?fn_Store_get ?a_Store_put ?l_Store_put ?c_Store_put ?k_Store_put ?fn_Store_put ?a_Store_slots ?l_Store_slots ?c_Store_slots ?k_Store_slots ?fn_Store_slots ?a_Store_drop ?l_Store_drop ?c_Store_drop ?k_Store_drop ?fn_Store_drop ?a_Store_close_up ?l_Store_close_up ?c_Store_close_up ?k_Store_close_up ?x1_Store_close_up ?x2_Store_close_up ?x3_Store_close_up ?x4_Store_close_up ?fn_Store_close_up ?a_Store_exchange ?l_Store_exchange ?c_Store_exchange ?k_Store_exchange ?fn_Store_exchange ?a__law_number ?l__law_number ?c__law_number ?k__law_number ?a__law_word ?l__law_word ?c__law_word ?k__law_word ?a__law_is ?l__law_is ?c__law_is ?k__law_is ?a__law_same ?l__law_same ?c__law_same ?k__law_same ?a__law_built ?l__law_built ?c__law_built ?k__law_built ?a__law_agrees ?l__law_agrees ?c__law_agrees ?k__law_agrees ?a__law_starts ?l__law_starts ?c__law_starts ?k__law_starts ?a__law_changes ?l__law_changes ?c__law_changes ?k__law_changes ?a_law ?l_law ?c_law ?k_law) hmg KX ?hP
    (case z_bool => first | k_is | ks_is | rfl | decide +kernel)
    (case z_int => first | k_is | ks_is | rfl | decide +kernel)
    (case z_isinstance => first | k_is | ks_is | rfl | decide +kernel)
    (case z_len => first | k_is | ks_is | rfl | decide +kernel)
    (case z_list => first | k_is | ks_is | rfl | decide +kernel)
    (case z_min => first | k_is | ks_is | rfl | decide +kernel)
    (case z_range => first | k_is | ks_is | rfl | decide +kernel)
    (case z_reversed => first | k_is | ks_is | rfl | decide +kernel)
    (case z_sorted => first | k_is | ks_is | rfl | decide +kernel)
    (case c_NIL => first | k_is | ks_is | rfl | decide +kernel)
    (case c_HEADER => first | k_is | ks_is | rfl | decide +kernel)
    (case cl_Store => first | k_is | ks_is | rfl | decide +kernel)
    (case pg_Store => first | k_is | ks_is | rfl | decide +kernel)
    (case hd_Store => first | k_is | ks_is | rfl | decide +kernel)
    (case po_Store => first | k_is | ks_is | rfl | decide +kernel)
    (case sa_Store => first | k_is | ks_is | rfl | decide +kernel)
    (case mk_Store => first | k_is | ks_is | rfl | decide +kernel)
    (case kp_Store => first | k_is | ks_is | rfl | decide +kernel)
    (case na_Store_room => first | k_is | ks_is | rfl | decide +kernel)
    (case na_Store_entries => first | k_is | ks_is | rfl | decide +kernel)
    (case na_Store_words => first | k_is | ks_is | rfl | decide +kernel)
    (case na_Store__places => first | k_is | ks_is | rfl | decide +kernel)
    (case na_Store__least => first | k_is | ks_is | rfl | decide +kernel)
    (case a_Store___init__ => first | k_is | ks_is | rfl | decide +kernel)
    (case l_Store___init__ => first | k_is | ks_is | rfl | decide +kernel)
    (case c_Store___init__ => first | k_is | ks_is | rfl | decide +kernel)
    (case k_Store___init__ => first | k_is | ks_is | rfl | decide +kernel)
    (case fn_Store___init__ => first | k_is | ks_is | rfl | decide +kernel)
    (case a_Store_numbers => first | k_is | ks_is | rfl | decide +kernel)
    (case l_Store_numbers => first | k_is | ks_is | rfl | decide +kernel)
    (case c_Store_numbers => first | k_is | ks_is | rfl | decide +kernel)
    (case k_Store_numbers => first | k_is | ks_is | rfl | decide +kernel)
    (case fn_Store_numbers => first | k_is | ks_is | rfl | decide +kernel)
    (case a_Store_free_number => first | k_is | ks_is | rfl | decide +kernel)
    (case l_Store_free_number => first | k_is | ks_is | rfl | decide +kernel)
    (case c_Store_free_number => first | k_is | ks_is | rfl | decide +kernel)
    (case k_Store_free_number => first | k_is | ks_is | rfl | decide +kernel)
    (case fn_Store_free_number => first | k_is | ks_is | rfl | decide +kernel)
    (case a_Store_allocate => first | k_is | ks_is | rfl | decide +kernel)
    (case l_Store_allocate => first | k_is | ks_is | rfl | decide +kernel)
    (case c_Store_allocate => first | k_is | ks_is | rfl | decide +kernel)
    (case k_Store_allocate => first | k_is | ks_is | rfl | decide +kernel)
    (case fn_Store_allocate => first | k_is | ks_is | rfl | decide +kernel)
    (case a_Store_size => first | k_is | ks_is | rfl | decide +kernel)
    (case l_Store_size => first | k_is | ks_is | rfl | decide +kernel)
    (case c_Store_size => first | k_is | ks_is | rfl | decide +kernel)
    (case k_Store_size => first | k_is | ks_is | rfl | decide +kernel)
    (case fn_Store_size => first | k_is | ks_is | rfl | decide +kernel)
    (case a_Store_kind => first | k_is | ks_is | rfl | decide +kernel)
    (case l_Store_kind => first | k_is | ks_is | rfl | decide +kernel)
    (case c_Store_kind => first | k_is | ks_is | rfl | decide +kernel)
    (case k_Store_kind => first | k_is | ks_is | rfl | decide +kernel)
    (case fn_Store_kind => first | k_is | ks_is | rfl | decide +kernel)
    (case a_Store_get => first | k_is | ks_is | rfl | decide +kernel)
    (case l_Store_get => first | k_is | ks_is | rfl | decide +kernel)
    (case c_Store_get => first | k_is | ks_is | rfl | decide +kernel)
    (case k_Store_get => first | k_is | ks_is | rfl | decide +kernel)
    (case fn_Store_get => first | k_is | ks_is | rfl | decide +kernel)
    (case a_Store_put => first | k_is | ks_is | rfl | decide +kernel)
    (case l_Store_put => first | k_is | ks_is | rfl | decide +kernel)
    (case c_Store_put => first | k_is | ks_is | rfl | decide +kernel)
    (case k_Store_put => first | k_is | ks_is | rfl | decide +kernel)
    (case fn_Store_put => first | k_is | ks_is | rfl | decide +kernel)
    (case a_Store_slots => first | k_is | ks_is | rfl | decide +kernel)
    (case l_Store_slots => first | k_is | ks_is | rfl | decide +kernel)
    (case c_Store_slots => first | k_is | ks_is | rfl | decide +kernel)
    (case k_Store_slots => first | k_is | ks_is | rfl | decide +kernel)
    (case fn_Store_slots => first | k_is | ks_is | rfl | decide +kernel)
    (case a_Store_drop => first | k_is | ks_is | rfl | decide +kernel)
    (case l_Store_drop => first | k_is | ks_is | rfl | decide +kernel)
    (case c_Store_drop => first | k_is | ks_is | rfl | decide +kernel)
    (case k_Store_drop => first | k_is | ks_is | rfl | decide +kernel)
    (case fn_Store_drop => first | k_is | ks_is | rfl | decide +kernel)
    (case a_Store_close_up => first | k_is | ks_is | rfl | decide +kernel)
    (case l_Store_close_up => first | k_is | ks_is | rfl | decide +kernel)
    (case c_Store_close_up => first | k_is | ks_is | rfl | decide +kernel)
    (case k_Store_close_up => first | k_is | ks_is | rfl | decide +kernel)
    (case x1_Store_close_up => first | k_is | ks_is | rfl | decide +kernel)
    (case x2_Store_close_up => first | k_is | ks_is | rfl | decide +kernel)
    (case x3_Store_close_up => first | k_is | ks_is | rfl | decide +kernel)
    (case x4_Store_close_up => first | k_is | ks_is | rfl | decide +kernel)
    (case fn_Store_close_up => first | k_is | ks_is | rfl | decide +kernel)
    (case a_Store_exchange => first | k_is | ks_is | rfl | decide +kernel)
    (case l_Store_exchange => first | k_is | ks_is | rfl | decide +kernel)
    (case c_Store_exchange => first | k_is | ks_is | rfl | decide +kernel)
    (case k_Store_exchange => first | k_is | ks_is | rfl | decide +kernel)
    (case fn_Store_exchange => first | k_is | ks_is | rfl | decide +kernel)
    (case a__law_number => first | k_is | ks_is | rfl | decide +kernel)
    (case l__law_number => first | k_is | ks_is | rfl | decide +kernel)
    (case c__law_number => first | k_is | ks_is | rfl | decide +kernel)
    (case k__law_number => first | k_is | ks_is | rfl | decide +kernel)
    (case a__law_word => first | k_is | ks_is | rfl | decide +kernel)
    (case l__law_word => first | k_is | ks_is | rfl | decide +kernel)
    (case c__law_word => first | k_is | ks_is | rfl | decide +kernel)
    (case k__law_word => first | k_is | ks_is | rfl | decide +kernel)
    (case a__law_is => first | k_is | ks_is | rfl | decide +kernel)
    (case l__law_is => first | k_is | ks_is | rfl | decide +kernel)
    (case c__law_is => first | k_is | ks_is | rfl | decide +kernel)
    (case k__law_is => first | k_is | ks_is | rfl | decide +kernel)
    (case a__law_same => first | k_is | ks_is | rfl | decide +kernel)
    (case l__law_same => first | k_is | ks_is | rfl | decide +kernel)
    (case c__law_same => first | k_is | ks_is | rfl | decide +kernel)
    (case k__law_same => first | k_is | ks_is | rfl | decide +kernel)
    (case a__law_built => first | k_is | ks_is | rfl | decide +kernel)
    (case l__law_built => first | k_is | ks_is | rfl | decide +kernel)
    (case c__law_built => first | k_is | ks_is | rfl | decide +kernel)
    (case k__law_built => first | k_is | ks_is | rfl | decide +kernel)
    (case a__law_agrees => first | k_is | ks_is | rfl | decide +kernel)
    (case l__law_agrees => first | k_is | ks_is | rfl | decide +kernel)
    (case c__law_agrees => first | k_is | ks_is | rfl | decide +kernel)
    (case k__law_agrees => first | k_is | ks_is | rfl | decide +kernel)
    (case a__law_starts => first | k_is | ks_is | rfl | decide +kernel)
    (case l__law_starts => first | k_is | ks_is | rfl | decide +kernel)
    (case c__law_starts => first | k_is | ks_is | rfl | decide +kernel)
    (case k__law_starts => first | k_is | ks_is | rfl | decide +kernel)
    (case a__law_changes => first | k_is | ks_is | rfl | decide +kernel)
    (case l__law_changes => first | k_is | ks_is | rfl | decide +kernel)
    (case c__law_changes => first | k_is | ks_is | rfl | decide +kernel)
    (case k__law_changes => first | k_is | ks_is | rfl | decide +kernel)
    (case a_law => first | k_is | ks_is | rfl | decide +kernel)
    (case l_law => first | k_is | ks_is | rfl | decide +kernel)
    (case c_law => first | k_is | ks_is | rfl | decide +kernel)
    (case k_law => first | k_is | ks_is | rfl | decide +kernel)
    (case hP => exact PySem.W.km_tabs_of Y _ (by first | k_mem | simp))
    all_goals exact PySem.Value.none

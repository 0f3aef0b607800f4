import PyProof.Rows.All
import Wide.All
import OpenK.AllK
import Wide.FinOn
import KE.KExcSuper
import HandS.ForMost
import HandS.ForExc
import HandS.ExcInit
import HandS.Nested
import HandS.Flow
import HandS.IsInst
import HandS.Wide
import HandS.StrMore
import HandS.RaiseMore
import HandS.TupAny
import HandS.Style
import HandS.NoneIn
import HandS.Conv
import HandS.Deep
import HandS.Small
import HandS.Evl
import HandS.SortInts
import HandS.More
import KE.SortData
import HandS.Lambda
import HandS.EndTab
import KE.SortKeyHeap
import KE.KSortKey
import PySem.Challenge.RW_saggar_k64_best_paths
set_option Elab.async false
set_option linter.all false
set_option maxRecDepth 100000
set_option maxHeartbeats 4000000
/-! universal rules: by the values' constructors -/
namespace LX
open PySem PySem.Spec PyProof.Rows L2
section
variable {X : Cx}
/-! ### operators -/
def rAddU (K : PySem.W.Frag) : R2 := fun x y H Q => match x, y with
  | .int i, .int j => Q (.int (i + j)) H
  | .str i, .str j => i.length + j.length ≤ sizeLine ∧ Q (.str (i ++ j)) H
  | .ref a, .ref b => rCat (.ref a) (.ref b) H Q ∨ rCatA K (.ref a) (.ref b) H Q
  | _, _ => False
theorem op_addU : OpR X (binaryOp .Add) (rAddU X.K) := by
  intro pins s σ H x y v u Q I rx ry h
  unfold rAddU at h
  split at h
  · exact op_add pins s σ H _ _ v u Q I rx ry ⟨_, _, rfl, rfl, h⟩
  · exact op_add_str pins s σ H _ _ v u Q I rx ry ⟨_, _, rfl, rfl, h.1, h.2⟩
  · rcases h with h | h
    · exact op_cat pins s σ H _ _ v u Q I rx ry h
    · exact op_catA pins s σ H _ _ v u Q I rx ry h
  · exact h.elim
def rMulU : R2 := fun x y H Q => match x, y with
  | .int i, .int j => CMul i j ∧ Q (.int (i * j)) H
  | .ref a, .int j => rRep (.ref a) (.int j) H Q
  | _, _ => False
theorem op_mulU : OpR X (binaryOp .Mult) rMulU := by
  intro pins s σ H x y v u Q I rx ry h
  unfold rMulU at h
  split at h
  · exact op_mul pins s σ H _ _ v u Q I rx ry ⟨_, _, rfl, rfl, h.1, h.2⟩
  · exact op_rep pins s σ H _ _ v u Q I rx ry h
  · exact h.elim
/-- an order by ints, by texts -/
def rOrd (f : Int → Int → Bool) (g : List Nat → List Nat → Bool) : R2 := fun x y H Q => match x, y with
  | .int i, .int j => Q (.bl (f i j)) H
  | .str i, .str j => Q (.bl (g i.cps.toList j.cps.toList)) H
  | _, _ => False
abbrev rLtU : R2 := rOrd (fun i j => decide (i < j)) (fun i j => decide (i < j))
abbrev rLeU : R2 := rOrd (fun i j => decide (i ≤ j)) (fun i j => !decide (j < i))
abbrev rGtU : R2 := rOrd (fun i j => decide (j < i)) (fun i j => decide (j < i))
abbrev rGeU : R2 := rOrd (fun i j => decide (j ≤ i)) (fun i j => !decide (i < j))
theorem op_ltU : OpR X (compareOp .Lt) rLtU := by
  intro pins s σ H x y v u Q I rx ry h
  unfold rLtU rOrd at h
  split at h
  · exact op_lt pins s σ H _ _ v u Q I rx ry ⟨_, _, rfl, rfl, h⟩
  · exact op_lt_str pins s σ H _ _ v u Q I rx ry ⟨_, _, rfl, rfl, h⟩
  · exact h.elim
theorem op_leU : OpR X (compareOp .LtE) rLeU := by
  intro pins s σ H x y v u Q I rx ry h
  unfold rLeU rOrd at h
  split at h
  · exact op_le pins s σ H _ _ v u Q I rx ry ⟨_, _, rfl, rfl, h⟩
  · exact op_le_str pins s σ H _ _ v u Q I rx ry ⟨_, _, rfl, rfl, h⟩
  · exact h.elim
theorem op_gtU : OpR X (compareOp .Gt) rGtU := by
  intro pins s σ H x y v u Q I rx ry h
  unfold rGtU rOrd at h
  split at h
  · exact op_gt pins s σ H _ _ v u Q I rx ry ⟨_, _, rfl, rfl, h⟩
  · exact op_gt_str pins s σ H _ _ v u Q I rx ry ⟨_, _, rfl, rfl, h⟩
  · exact h.elim
theorem op_geU : OpR X (compareOp .GtE) rGeU := by
  intro pins s σ H x y v u Q I rx ry h
  unfold rGeU rOrd at h
  split at h
  · exact op_ge pins s σ H _ _ v u Q I rx ry ⟨_, _, rfl, rfl, h⟩
  · exact op_ge_str pins s σ H _ _ v u Q I rx ry ⟨_, _, rfl, rfl, h⟩
  · exact h.elim
/-- ==, != : two objects (deep), else by value -/
def rEqU (K : PySem.W.Frag) (g : Bool → Bool) : R2 := fun x y H Q => match x, y with
  | .ref a, .ref b => ∃ d e, Dp K H (.ref a) d ∧ Dp K H (.ref b) e ∧ SeqAt.shaped d = true ∧ SeqAt.shaped e = true ∧ Q (.bl (g (PyData.eqv d e))) H
  | x, y => scal x y = true ∧ Q (.bl (g (decide (x = y)))) H
theorem op_eqU (hu : X.A.units + 64 < cLine) : OpR X (compareOp .Eq) (rEqU X.K id) := by
  intro pins s σ H x y v u Q I rx ry h
  unfold rEqU at h
  split at h
  · exact op_eqD hu pins s σ H _ _ v u Q I rx ry h
  · exact op_eq pins s σ H _ _ v u Q I rx ry h
theorem op_neU (hu : X.A.units + 64 < cLine) : OpR X (compareOp .NotEq) (rEqU X.K (!·)) := by
  intro pins s σ H x y v u Q I rx ry h
  unfold rEqU at h
  split at h
  · exact op_neD hu pins s σ H _ _ v u Q I rx ry h
  · exact op_ne pins s σ H _ _ v u Q I rx ry h
/-- x is None, True, False -/
def rIsU (g : Bool → Bool) : R2 := fun x y H Q => match y with
  | .non => Q (.bl (g (decide (x = .non)))) H
  | .bl b => Q (.bl (g (decide (x = .bl b)))) H
  | _ => False
theorem op_isU : OpR X (compareOp .Is) (rIsU id) := by
  intro pins s σ H x y v u Q I rx ry h
  unfold rIsU at h
  split at h
  · exact op_isN pins s σ H _ _ v u Q I rx ry ⟨rfl, h⟩
  · rename_i b
    cases (show u = Value.bool b from ry)
    by_cases e : x = .bl b
    · subst e
      cases (show v = Value.bool b from rx)
      exact wpAny_is_self rfl ⟨.bl true, H, I, rfl, by simpa using h⟩
    · refine wpAny_is_other ?_ ?_ ⟨.bl false, H, I, rfl, by simpa [e] using h⟩
      · first | rfl | (cases x <;> first | rfl | (cases rx; rfl) | (obtain ⟨t, rfl⟩ := rx; rfl))
      · intro z
        subst z
        exact e (RelV.inj rx rfl)
  · exact h.elim
theorem op_isnotU : OpR X (compareOp .IsNot) (rIsU (!·)) := by
  intro pins s σ H x y v u Q I rx ry h
  unfold rIsU at h
  split at h
  · exact op_notN pins s σ H _ _ v u Q I rx ry ⟨rfl, h⟩
  · rename_i b
    cases (show u = Value.bool b from ry)
    by_cases e : x = .bl b
    · subst e
      cases (show v = Value.bool b from rx)
      exact wpAny_isNot_self rfl ⟨.bl false, H, I, rfl, by simpa using h⟩
    · refine wpAny_isNot_other ?_ ?_ ⟨.bl true, H, I, rfl, by simpa [e] using h⟩
      · first | rfl | (cases x <;> first | rfl | (cases rx; rfl) | (obtain ⟨t, rfl⟩ := rx; rfl))
      · intro z
        subst z
        exact e (RelV.inj rx rfl)
  · exact h.elim
/-! ### subscripts, slices, in -/
def rIxU (K : PySem.W.Frag) : R2 := fun x y H Q => match x with
  | .str z => ∃ i c, y = .int i ∧ z.length ≤ sizeLine ∧ atI z.cps.toList i = some c ∧ Q (.str ⟨#[c]⟩) H
  | .ref p => (∃ xs i v, y = .int i ∧ (SqL K H p xs ∨ SqT K H p xs) ∧ atI xs i = some v ∧ Q v H) ∨ (∃ v, DGet H p y (some v) ∧ Q v H)
  | _ => False
theorem ix_U (hu : X.A.units + 1 < cLine) : IxR X (rIxU X.K) := by
  intro value slice pins s σ H x y v u Q I rx ry h hs
  unfold rIxU at h
  split at h
  · obtain ⟨i, c, rfl, h1, h2, q⟩ := h
    exact ix_str value slice pins s σ H _ _ v u Q I rx ry ⟨_, _, _, rfl, rfl, h1, h2, q⟩ hs
  · rcases h with ⟨xs, i, w', rfl, h1 | h1, h2, q⟩ | ⟨w', g, q⟩
    · exact ix_list value slice pins s σ H _ _ v u Q I rx ry ⟨_, _, _, _, rfl, rfl, h1, h2, q⟩ hs
    · exact ix_tup value slice pins s σ H _ _ v u Q I rx ry ⟨_, _, _, _, rfl, rfl, h1, h2, q⟩ hs
    · rename_i p
      obtain rfl : v = Value.ref p := rx
      exact tail_any (dict_typeIs I g) PySem.F.slot_dict_getitem.lookup (d_getItem hu I g ry fun w2 s2 I2 rw2 => ⟨w', H, I2, rw2, q⟩) hs
  · exact h.elim
def rSlU (K : PySem.W.Frag) : V → Option Int → Option Int → Hp → VK → Prop := fun x lo hi H Q => match x with
  | .str z => z.length ≤ sizeLine ∧ Q (.str (cutS z lo hi)) H
  | .ref a => rSlL K (.ref a) lo hi H Q ∨ rSlA K (.ref a) lo hi H Q
  | _ => False
theorem sl_U : SlR X (rSlU X.K) := by
  intro pins s σ H x v vl vu lo hi sl Q I rx hs pl pu h
  unfold rSlU at h
  split at h
  · exact sl_str pins s σ H _ v vl vu lo hi sl Q I rx hs pl pu ⟨_, rfl, h.1, h.2⟩
  · rcases h with h | h
    · exact sl_list pins s σ H _ v vl vu lo hi sl Q I rx hs pl pu h
    · exact sl_tupA pins s σ H _ v vl vu lo hi sl Q I rx hs pl pu h
  · exact h.elim
/-- in, not in -/
def rInU (K : PySem.W.Frag) (g : Bool → Bool) : R2 := fun x y H Q => match y with
  | .str z => (∃ c : Nat, x = .str ⟨#[c]⟩ ∧ Q (.bl (g (decide (c ∈ z.cps.toList)))) H) ∨ ∃ i, x = .str i ∧ Q (.bl (g (!(Builtin.Str.occurrences z i 0 z.length 1).isEmpty))) H
  | .ref p => (∃ xs, (SqL K H p xs ∨ SqT K H p xs) ∧ flatV x = true ∧ xs.all flatV = true ∧ Q (.bl (g (inV x xs))) H) ∨ (∃ o, DGet H p x o ∧ Q (.bl (g o.isSome)) H)
  | _ => False
theorem op_inU (hu : X.A.units + 1 < cLine) : OpR X (compareOp .In) (rInU X.K id) := by
  intro pins s σ H x y v u Q I rx ry h
  unfold rInU at h
  split at h
  · rcases h with ⟨c, rfl, q⟩ | ⟨i, rfl, q⟩
    · exact op_in_sign pins s σ H _ _ v u Q I rx ry ⟨_, _, rfl, rfl, q⟩
    · exact op_in_str pins s σ H _ _ v u Q I rx ry ⟨_, _, rfl, rfl, q⟩
  · rcases h with ⟨xs, h1, h2, h3, q⟩ | ⟨o, g, q⟩
    · exact op_in_seq pins s σ H _ _ v u Q I rx ry ⟨_, xs, rfl, h1, h2, h3, q⟩
    · rename_i p
      obtain rfl : u = Value.ref p := ry
      exact d_in hu I g rx fun s3 I3 => ⟨.bl o.isSome, H, I3, rfl, q⟩
  · exact h.elim
theorem op_ninU (hu : X.A.units + 1 < cLine) : OpR X (compareOp .NotIn) (rInU X.K (!·)) := by
  intro pins s σ H x y v u Q I rx ry h
  unfold rInU at h
  split at h
  · rcases h with ⟨c, rfl, q⟩ | ⟨i, rfl, q⟩
    · exact op_notIn_sign pins s σ H _ _ v u Q I rx ry ⟨_, _, rfl, rfl, q⟩
    · exact op_notin_str pins s σ H _ _ v u Q I rx ry ⟨_, _, rfl, rfl, q⟩
  · rcases h with ⟨xs, h1, h2, h3, q⟩ | ⟨o, g, q⟩
    · exact op_notIn_seq pins s σ H _ _ v u Q I rx ry ⟨_, xs, rfl, h1, h2, h3, q⟩
    · rename_i p
      obtain rfl : u = Value.ref p := ry
      exact d_notIn hu I g rx fun s3 I3 => ⟨.bl (!o.isSome), H, I3, rfl, q⟩
  · exact h.elim
/-! ### calls -/
def rLenU (K : PySem.W.Frag) : List V → Hp → VK → Prop := fun xs H Q => match xs with
  | [.str z] => z.length ≤ sizeLine ∧ Q (.int z.length) H
  | [.ref p] => (∃ ys, (SqL K H p ys ∨ SqT K H p ys) ∧ Q (.int ys.length) H) ∨ ∃ kvs, H p = some (.dK kvs) ∧ Q (.int kvs.length) H
  | _ => False
theorem call_lenU : CallR X (.builtin "len") (rLenU X.K) := by
  intro pins s σ H xs us Q I r h
  unfold rLenU at h
  split at h
  · exact call_len_str pins s σ H _ us Q I r ⟨_, rfl, h.1, h.2⟩
  · rcases h with ⟨ys, h1, q⟩ | ⟨kvs, h1, q⟩
    · exact call_len_seq pins s σ H _ us Q I r ⟨_, ys, rfl, h1, q⟩
    · exact call_lenD pins s σ H _ us Q I r ⟨_, kvs, rfl, h1, q⟩
  · exact h.elim
def rIntU : List V → Hp → VK → Prop := fun xs H Q => match xs with
  | [.int i] => Q (.int i) H
  | [.bl k] => Q (.int (if k then 1 else 0)) H
  | [.str a] => ∃ n, PySem.intText? a = some n ∧ a.length ≤ 640 ∧ Q (.int n) H
  | _ => False
theorem call_intU : CallR X (.type "int") rIntU := by
  intro pins s σ H xs us Q I r h
  unfold rIntU at h
  split at h
  · exact call_int1 pins s σ H _ us Q I r (.inl ⟨_, rfl, h⟩)
  · exact call_int1 pins s σ H _ us Q I r (.inr ⟨_, rfl, h⟩)
  · obtain ⟨n, h1, h2, q⟩ := h
    exact call_int_str pins s σ H _ us Q I r ⟨_, n, rfl, h1, h2, q⟩
  · exact h.elim
def rStrU : List V → Hp → VK → Prop := fun xs H Q => match xs with
  | [.int i] => i.natAbs.log2 < 1920 ∧ Q (.str (toString i)) H
  | [.str a] => Q (.str a) H
  | _ => False
theorem call_strU : CallR X (.type "str") rStrU := by
  intro pins s σ H xs us Q I r h
  unfold rStrU at h
  split at h
  · exact call_str_int pins s σ H _ us Q I r ⟨_, rfl, h.1, h.2⟩
  · exact SkE.call_str_str pins s σ H _ us Q I r ⟨_, rfl, h⟩
  · exact h.elim
/-- isinstance: a built-in type or an own class -/
def rIsU2 (K : PySem.W.Frag) : List V → Hp → VK → Prop := fun xs H Q => ∃ (x c : V) (t u : Value) (b : Bool), xs = [x, c] ∧ ClsV c u ∧ TyX K H x t ∧ PySem.W.kitOne K t u = some b ∧ Q (.bl b) H
end
theorem hu64_of {A : Around} {k : Nat} (hr : Room k A) : A.units + 64 < cLine := by have := hr.un; omega
theorem ite_eq {c d : Bool} {A B : Prop} (e : c = d) (h : if d = true then A else B) : if c = true then A else B := by rw [e]; exact h
theorem iteD {c : Prop} [Decidable c] {A B : Prop} (h1 : c → A) (h2 : ¬ c → B) : if decide c = true then A else B := by
  by_cases h : c
  · rw [decide_eq_true h]; exact iteT (h1 h)
  · rw [decide_eq_false h]; exact iteF (h2 h)
theorem iteND {c : Prop} [Decidable c] {A B : Prop} (h1 : ¬ c → A) (h2 : c → B) : if (!decide c) = true then A else B := by
  by_cases h : c
  · rw [decide_eq_true h]; exact iteF (h2 h)
  · rw [decide_eq_false h]; exact iteT (h1 h)
/-- a text by its signs -/
abbrev T (l : List Nat) : Str := ⟨l.toArray⟩
theorem T_of (z : Str) : z = T z.cps.toList := rfl
theorem T_inj {a b : List Nat} (h : T a = T b) : a = b := congrArg (fun x : Str => x.cps.toList) h
theorem T_app (a b : List Nat) : T a ++ T b = T (a ++ b) := by
  show (⟨a.toArray ++ b.toArray⟩ : Str) = ⟨(a ++ b).toArray⟩
  simp
theorem T_dec (a b : List Nat) : decide (V.str (T a) = V.str (T b)) = decide (a = b) := by
  by_cases h : a = b
  · subst h; simp
  · have : ¬ V.str (T a) = V.str (T b) := fun z => h (T_inj (V.str.inj z))
    rw [decide_eq_false this, decide_eq_false h]
theorem I_dec (a b : Int) : decide (V.int a = V.int b) = decide (a = b) := by
  by_cases h : a = b
  · subst h; simp
  · have : ¬ V.int a = V.int b := fun z => h (V.int.inj z)
    rw [decide_eq_false this, decide_eq_false h]
theorem B_dec (a b : Bool) : decide (V.bl a = V.bl b) = (a == b) := by cases a <;> cases b <;> rfl
theorem pe_strT {X : Cx} {x : Str} {l : List Nat} {j : Nat} {pos : Pos} (e : x = T l) : PE X (.Constant (.str x) j pos) (tC (.str (T l))) := by subst e; exact pe_str
theorem pv_some {X : Cx} : True := True.intro
theorem bb_len : bootBuiltins "len" = some (.builtin "len") := by first | rfl | decide +kernel
theorem bb_isinstance : bootBuiltins "isinstance" = some (.builtin "isinstance") := by first | rfl | decide +kernel
theorem bb_abs : bootBuiltins "abs" = some (.builtin "abs") := by first | rfl | decide +kernel
theorem bb_sorted : bootBuiltins "sorted" = some (.builtin "sorted") := by first | rfl | decide +kernel
theorem bb_min : bootBuiltins "min" = some (.builtin "min") := by first | rfl | decide +kernel
theorem bb_max : bootBuiltins "max" = some (.builtin "max") := by first | rfl | decide +kernel
theorem bb_sum : bootBuiltins "sum" = some (.builtin "sum") := by first | rfl | decide +kernel
theorem bb_all : bootBuiltins "all" = some (.builtin "all") := by first | rfl | decide +kernel
theorem bb_any : bootBuiltins "any" = some (.builtin "any") := by first | rfl | decide +kernel
theorem bb_repr : bootBuiltins "repr" = some (.builtin "repr") := by first | rfl | decide +kernel
theorem bb_int : bootBuiltins "int" = some (.type "int") := by first | rfl | decide +kernel
theorem bb_str : bootBuiltins "str" = some (.type "str") := by first | rfl | decide +kernel
theorem bb_bool : bootBuiltins "bool" = some (.type "bool") := by first | rfl | decide +kernel
theorem bb_list : bootBuiltins "list" = some (.type "list") := by first | rfl | decide +kernel
theorem bb_dict : bootBuiltins "dict" = some (.type "dict") := by first | rfl | decide +kernel
theorem bb_tuple : bootBuiltins "tuple" = some (.type "tuple") := by first | rfl | decide +kernel
theorem bb_set : bootBuiltins "set" = some (.type "set") := by first | rfl | decide +kernel
theorem bb_ValueError : bootBuiltins "ValueError" = some (.type "ValueError") := by first | rfl | decide +kernel
theorem pe_gi {X : Cx} {x : Str} {z : Int} {t : Tok} {pos : Pos} (hg : Gl X x) (hm : X.mg x = some (.int z t)) (hd : (x == ("__debug__" : Str)) = false := by decide) : PE X (.Name x pos) (tC (.int z)) := pe_glob hg hm ⟨_, rfl⟩ hd
theorem pe_gs {X : Cx} {x : Str} {z : Str} {t : Tok} {pos : Pos} (hg : Gl X x) (hm : X.mg x = some (.str z t)) (hd : (x == ("__debug__" : Str)) = false := by decide) : PE X (.Name x pos) (tC (.str z)) := pe_glob hg hm ⟨_, rfl⟩ hd
theorem pe_gr {X : Cx} {x : Str} {a : Addr} {pos : Pos} (hg : Gl X x) (hm : X.mg x = some (.ref a)) (hd : (x == ("__debug__" : Str)) = false := by decide) : PE X (.Name x pos) (tC (.ref a)) := pe_glob hg hm rfl hd
theorem pe_bt {X : Cx} {x : Str} {n : String} {pos : Pos} (hg : Gl X x) (hm : X.mg x = none) (hv : bootBuiltins x = some (.type n)) (hn : x ≠ "__name__" := by decide) (hd : (x == ("__debug__" : Str)) = false := by decide) : PE X (.Name x pos) (tC (.ty n)) := pe_bltn hg hm hv rfl hn hd
/-! isinstance against built-in types -/
theorem kt_int_int {K : PySem.W.Frag} : PySem.W.kitOne K (.type "int") (.type "int") = some true := kit_ty (by decide +kernel)
theorem kt_int_bool {K : PySem.W.Frag} : PySem.W.kitOne K (.type "int") (.type "bool") = some false := kit_ty (by decide +kernel)
theorem kt_int_str {K : PySem.W.Frag} : PySem.W.kitOne K (.type "int") (.type "str") = some false := kit_ty (by decide +kernel)
theorem kt_int_list {K : PySem.W.Frag} : PySem.W.kitOne K (.type "int") (.type "list") = some false := kit_ty (by decide +kernel)
theorem kt_int_tuple {K : PySem.W.Frag} : PySem.W.kitOne K (.type "int") (.type "tuple") = some false := kit_ty (by decide +kernel)
theorem kt_int_dict {K : PySem.W.Frag} : PySem.W.kitOne K (.type "int") (.type "dict") = some false := kit_ty (by decide +kernel)
theorem kt_bool_int {K : PySem.W.Frag} : PySem.W.kitOne K (.type "bool") (.type "int") = some true := kit_ty (by decide +kernel)
theorem kt_bool_bool {K : PySem.W.Frag} : PySem.W.kitOne K (.type "bool") (.type "bool") = some true := kit_ty (by decide +kernel)
theorem kt_bool_str {K : PySem.W.Frag} : PySem.W.kitOne K (.type "bool") (.type "str") = some false := kit_ty (by decide +kernel)
theorem kt_bool_list {K : PySem.W.Frag} : PySem.W.kitOne K (.type "bool") (.type "list") = some false := kit_ty (by decide +kernel)
theorem kt_bool_tuple {K : PySem.W.Frag} : PySem.W.kitOne K (.type "bool") (.type "tuple") = some false := kit_ty (by decide +kernel)
theorem kt_bool_dict {K : PySem.W.Frag} : PySem.W.kitOne K (.type "bool") (.type "dict") = some false := kit_ty (by decide +kernel)
theorem kt_str_int {K : PySem.W.Frag} : PySem.W.kitOne K (.type "str") (.type "int") = some false := kit_ty (by decide +kernel)
theorem kt_str_bool {K : PySem.W.Frag} : PySem.W.kitOne K (.type "str") (.type "bool") = some false := kit_ty (by decide +kernel)
theorem kt_str_str {K : PySem.W.Frag} : PySem.W.kitOne K (.type "str") (.type "str") = some true := kit_ty (by decide +kernel)
theorem kt_str_list {K : PySem.W.Frag} : PySem.W.kitOne K (.type "str") (.type "list") = some false := kit_ty (by decide +kernel)
theorem kt_str_tuple {K : PySem.W.Frag} : PySem.W.kitOne K (.type "str") (.type "tuple") = some false := kit_ty (by decide +kernel)
theorem kt_str_dict {K : PySem.W.Frag} : PySem.W.kitOne K (.type "str") (.type "dict") = some false := kit_ty (by decide +kernel)
theorem kt_list_int {K : PySem.W.Frag} : PySem.W.kitOne K (.type "list") (.type "int") = some false := kit_ty (by decide +kernel)
theorem kt_list_bool {K : PySem.W.Frag} : PySem.W.kitOne K (.type "list") (.type "bool") = some false := kit_ty (by decide +kernel)
theorem kt_list_str {K : PySem.W.Frag} : PySem.W.kitOne K (.type "list") (.type "str") = some false := kit_ty (by decide +kernel)
theorem kt_list_list {K : PySem.W.Frag} : PySem.W.kitOne K (.type "list") (.type "list") = some true := kit_ty (by decide +kernel)
theorem kt_list_tuple {K : PySem.W.Frag} : PySem.W.kitOne K (.type "list") (.type "tuple") = some false := kit_ty (by decide +kernel)
theorem kt_list_dict {K : PySem.W.Frag} : PySem.W.kitOne K (.type "list") (.type "dict") = some false := kit_ty (by decide +kernel)
theorem kt_tuple_int {K : PySem.W.Frag} : PySem.W.kitOne K (.type "tuple") (.type "int") = some false := kit_ty (by decide +kernel)
theorem kt_tuple_bool {K : PySem.W.Frag} : PySem.W.kitOne K (.type "tuple") (.type "bool") = some false := kit_ty (by decide +kernel)
theorem kt_tuple_str {K : PySem.W.Frag} : PySem.W.kitOne K (.type "tuple") (.type "str") = some false := kit_ty (by decide +kernel)
theorem kt_tuple_list {K : PySem.W.Frag} : PySem.W.kitOne K (.type "tuple") (.type "list") = some false := kit_ty (by decide +kernel)
theorem kt_tuple_tuple {K : PySem.W.Frag} : PySem.W.kitOne K (.type "tuple") (.type "tuple") = some true := kit_ty (by decide +kernel)
theorem kt_tuple_dict {K : PySem.W.Frag} : PySem.W.kitOne K (.type "tuple") (.type "dict") = some false := kit_ty (by decide +kernel)
theorem kt_dict_int {K : PySem.W.Frag} : PySem.W.kitOne K (.type "dict") (.type "int") = some false := kit_ty (by decide +kernel)
theorem kt_dict_bool {K : PySem.W.Frag} : PySem.W.kitOne K (.type "dict") (.type "bool") = some false := kit_ty (by decide +kernel)
theorem kt_dict_str {K : PySem.W.Frag} : PySem.W.kitOne K (.type "dict") (.type "str") = some false := kit_ty (by decide +kernel)
theorem kt_dict_list {K : PySem.W.Frag} : PySem.W.kitOne K (.type "dict") (.type "list") = some false := kit_ty (by decide +kernel)
theorem kt_dict_tuple {K : PySem.W.Frag} : PySem.W.kitOne K (.type "dict") (.type "tuple") = some false := kit_ty (by decide +kernel)
theorem kt_dict_dict {K : PySem.W.Frag} : PySem.W.kitOne K (.type "dict") (.type "dict") = some true := kit_ty (by decide +kernel)
theorem kt_NoneType_int {K : PySem.W.Frag} : PySem.W.kitOne K (.type "NoneType") (.type "int") = some false := kit_ty (by decide +kernel)
theorem kt_NoneType_bool {K : PySem.W.Frag} : PySem.W.kitOne K (.type "NoneType") (.type "bool") = some false := kit_ty (by decide +kernel)
theorem kt_NoneType_str {K : PySem.W.Frag} : PySem.W.kitOne K (.type "NoneType") (.type "str") = some false := kit_ty (by decide +kernel)
theorem kt_NoneType_list {K : PySem.W.Frag} : PySem.W.kitOne K (.type "NoneType") (.type "list") = some false := kit_ty (by decide +kernel)
theorem kt_NoneType_tuple {K : PySem.W.Frag} : PySem.W.kitOne K (.type "NoneType") (.type "tuple") = some false := kit_ty (by decide +kernel)
theorem kt_NoneType_dict {K : PySem.W.Frag} : PySem.W.kitOne K (.type "NoneType") (.type "dict") = some false := kit_ty (by decide +kernel)
end LX
/-! sorted(x) of a list of whole numbers or of a dict with such keys, any number of them -/
namespace LX
open PySem PySem.Spec PyProof.Rows L2
section
variable {X : Cx}
theorem call_sortedDA (hcalm : X.calm = true) : CallR X (.builtin "sorted") (fun xs H Q => ∃ (a : Addr) (kvs : List (Key × V)) (ks : List Int), xs = [.ref a] ∧ Rd H a (.dK kvs) ∧ kvs.map (·.1) = ks.map Sum.inl ∧
    ∀ (ys : List Int) (p : Addr), ys.Perm ks → ys.Pairwise (· ≤ ·) → H p = none → Q (.ref p) (upd H p (.lst (ys.map V.int)))) := by
  intro pins s σ H xs us Q I r q
  obtain ⟨a, kvs, ks, ex, hd, hks, q⟩ := q
  subst ex
  obtain ⟨u, eu, rx⟩ := vals1 r
  subst eu
  cases rx
  obtain ⟨z, lo, vs, rel, dd⟩ := dk_rd I.hok hd
  obtain ⟨ep, hat⟩ := dd.dictAt
  have hkeys : vs.map (·.1) = ks.map Sum.inl := rel.keys.symm.trans hks
  have hl : vs.length = ks.length := by
    have e := congrArg List.length hkeys
    rw [List.length_map, List.length_map] at e
    exact e
  have hkl : ks.length ≤ sizeLine := by
    have e := congrArg List.length hks
    rw [List.length_map, List.length_map] at e
    omega
  have h16 : vs.length ≤ sizeLine := by rw [hl]; exact hkl
  refine Calls.call_function_entry PyProof.Rows.kind_sorted PyProof.Rows.plain_sorted PyProof.Rows.entry_sorted (PyProof.Rows.args_sorted1 _) ?_
  unfold Builtin.«sorted»
  refine wpAny_bind (m := checkCount "sorted" 1 1 _) (wpAny_pure ?_)
  refine wpAny_bind (PySem.W.kdu_collect (A := X.A.in1) (PySem.W.kdl_dict (knd := mixKind X.prog X.w) (kvs := vs) (ep := ep) lo) (I.ok.hd hcalm) hat h16 fun h' tk acc hk hacc => ?_)
  have hal : acc.toList.length = ks.length := by rw [Array.length_toList, hacc.1, hl]
  have hS : IntsAre acc.toList ks := ints_each hal fun j v e => by
    obtain ⟨k, x, e1, e2⟩ := hacc.2 j v (by rw [← Array.getElem?_toList]; exact e)
    have e3 : (vs.map (·.1))[j]? = some k := by rw [List.getElem?_map, e1]; rfl
    rw [hkeys, List.getElem?_map] at e3
    cases e4 : ks[j]? with
    | none => rw [e4] at e3; cases e3
    | some y =>
      rw [e4] at e3
      have e5 : Sum.inl y = k := Option.some.inj e3
      subst e5
      rcases keyIs_shape (show keyIs (Sum.inl y) v = true from e2) with ⟨i, t, ek, ev⟩ | ⟨z, t, ek, ev⟩
      · cases ek
        exact ⟨y, t, rfl, ev⟩
      · cases ek
  have I1 : Inv X pins σ H { s with heap := h', toks := tk } := I.kept hk
  refine wpAny_bind (wpAny_newList ?_ (by rw [hal]; exact hkl))
  have hoL : (h'.push (seqObj "list" acc.toList.toArray 0)).get? h'.objs.size = some (seqObj "list" acc.toList.toArray 0) := Heap.get?_push_size _ rfl
  show wpAny _ _ _ _ _ { s with heap := h'.push (seqObj "list" acc.toList.toArray 0), toks := tk }
  refine wpAny_bind (wpAny_holding (wpAny_call_entry PyProof.Rows.slot_list_sort ⟨_, hoL, rfl⟩ PyProof.Rows.entry_list_sort
    (SrtO.list_sort_ord (s := { s with heap := h'.push (seqObj "list" acc.toList.toArray 0), toks := tk }) SrtO.swo_int hoL (by rw [hal]; exact hkl) (fun h2 => SrtO.ints_sortable hS h2) fun out h1 h2 => ⟨.none, rfl, ?_⟩) (PyProof.Rows.args_list_sort _)))
  obtain ⟨k1, k2, k3⟩ := SrtO.ints_out hS h1 h2
  obtain ⟨e', he'⟩ := PyProof.Rows.sortedHeap_at (vs := acc.toList) (out := out.toArray) hoL
  have hlen : ((out.map SrtO.iv).map V.int).length ≤ sizeLine := by
    rw [List.length_map, k2.length_eq]
    exact hkl
  refine wpAny_pure ⟨_, rfl, .ref h'.objs.size, upd H h'.objs.size (.lst ((out.map SrtO.iv).map V.int)), I1.laid (t' := tk) (fun b u e => ?_) (Nat.le_refl _)
    (show ObjOk X.prog X.w _ _ _ (.lst ((out.map SrtO.iv).map V.int)) from ⟨hlen, out, e', vals_of_ints k1, he'⟩), rfl, q _ _ k2 k3 (I1.hok.fresh (Nat.le_refl _))⟩
  have hb : b < h'.objs.size := Heap.lt_size e
  rw [PyProof.Rows.sortedHeap_old (Nat.ne_of_lt hb) (by rw [size_push']; exact Nat.lt_succ_of_lt hb)]
  exact Heap.get?_push_of_some _ e
def rSortedU (K : PySem.W.Frag) : List V → Hp → VK → Prop := fun vs H Q => ∃ (a : Addr) (ns : List Int), vs = [V.ref a] ∧ (SqL K H a (ns.map V.int) ∨ ∃ kvs : List (Key × V), Rd H a (.dK kvs) ∧ kvs.map (·.1) = ns.map Sum.inl) ∧
  ∀ (ns' : List Int) (p : Addr), ns'.Perm ns → ns'.Pairwise (· ≤ ·) → H p = none → Q (.ref p) (upd H p (.lst (ns'.map V.int)))
theorem call_sortedU (hcalm : X.calm = true) : CallR X (.builtin "sorted") (rSortedU X.K) := by
  intro pins s σ H xs us Q I r h
  obtain ⟨a, ns, rfl, h1 | ⟨kvs, h1, h2⟩, q⟩ := h
  · exact cr_sortedI pins s σ H _ us Q I r ⟨a, ns, rfl, h1, q⟩
  · exact call_sortedDA hcalm pins s σ H _ us Q I r ⟨a, kvs, ns, rfl, h1, h2, q⟩
end
end LX
/-! the rules of LBase with the law's own K, for the parts of a comprehension -/
namespace LX
open PySem PySem.Spec PyProof.Rows L2
section
variable {X : Cx} {K : PySem.W.Frag}
theorem ix_UK (e : X.K = K) (hu : X.A.units + 1 < cLine) : IxR X (rIxU K) := by subst e; exact ix_U hu
theorem op_addUK (e : X.K = K) : OpR X (binaryOp .Add) (rAddU K) := by subst e; exact op_addU
theorem op_eqUK (e : X.K = K) (hu : X.A.units + 64 < cLine) : OpR X (compareOp .Eq) (rEqU K id) := by subst e; exact op_eqU hu
theorem op_neUK (e : X.K = K) (hu : X.A.units + 64 < cLine) : OpR X (compareOp .NotEq) (rEqU K (!·)) := by subst e; exact op_neU hu
theorem op_inUK (e : X.K = K) (hu : X.A.units + 1 < cLine) : OpR X (compareOp .In) (rInU K id) := by subst e; exact op_inU hu
theorem op_ninUK (e : X.K = K) (hu : X.A.units + 1 < cLine) : OpR X (compareOp .NotIn) (rInU K (!·)) := by subst e; exact op_ninU hu
theorem sl_UK (e : X.K = K) : SlR X (rSlU K) := by subst e; exact sl_U
theorem call_lenUK (e : X.K = K) : CallR X (.builtin "len") (rLenU K) := by subst e; exact call_lenU
theorem pe_fldK {o : Expr} {f : Str} {pos : Pos} {ta : TE} (e : X.K = K) (he : PE X o ta) (hb : attributeBase o f X.env (eval o X.env) = eval o X.env) : PE X (.Attribute o f pos) (tFld K ta f) := by subst e; exact pe_fld he hb
def tTruK (K : PySem.W.Frag) (ta : TE) : TT := fun σ H Q => ta σ H fun x H' => ∃ k, TruV K x H' k ∧ Q k H'
theorem pt_truthK {a : Expr} {ta : TE} (e : X.K = K) (ha : PE X a ta) (he : ∀ whole, isTrue a X.env whole = (do let v ← whole; standAt a.pos; holding [v] (truthy v))) :
    PT X a (tTruK K ta) := by subst e; exact pt_truth ha he
end
end LX
/-! the reading, step by step: one rule a head; the step tactic is printed from mkauto.py -/
namespace LX
open PySem PySem.Spec PyProof.Rows L2
/-- every old thing outside of F is kept -/
def Fr (F : List Addr) (H H' : Hp) : Prop := ∀ b o, H b = some o → b ∉ F → H' b = some o
theorem Fr.rfl' {F : List Addr} {H : Hp} : Fr F H H := fun _ _ e _ => e
theorem Fr.trans {F : List Addr} {H H1 H2 : Hp} (a : Fr F H H1) (b : Fr F H1 H2) : Fr F H H2 := fun c o e n => b c o (a c o e n) n
theorem Fr.new {F : List Addr} {H : Hp} {q : Addr} {o : HO} (hq : H q = none) : Fr F H (upd H q o) := fun c u e _ => by rw [upd_ne (ne_of_none e hq)]; exact e
theorem Fr.at {F : List Addr} {H : Hp} {q : Addr} {o : HO} (hq : q ∈ F) : Fr F H (upd H q o) := fun c u e n => by rw [upd_ne (fun z => n (by rw [z]; exact hq))]; exact e
theorem Fr.mono {F G : List Addr} {H H' : Hp} (a : Fr F H H') (h : ∀ b, b ∈ F → b ∈ G) : Fr G H H' := fun c o e n => a c o e fun m => n (h c m)
theorem Fr.skip {F : List Addr} {H H' : Hp} {q : Addr} {o : HO} (f : Fr F H H') (hq : H q = none) : Fr F H (upd H' q o) := fun b u e n => by rw [upd_ne (ne_of_none e hq)]; exact f b u e n
theorem Fr.g {F : List Addr} {H H' : Hp} (f : Fr F H H') {a : Addr} {o : HO} (h : H a = some o) (n : a ∉ F) : H' a = some o := f a o h n
theorem Fr.g0 {H H' : Hp} (f : Fr [] H H') {a : Addr} {o : HO} (h : H a = some o) : H' a = some o := f a o h (by simp)
/-- what is free later was free before -/
theorem Fr.none {H H' : Hp} (f : Fr [] H H') {q : Addr} (h : H' q = Option.none) : H q = Option.none := by
  cases e : H q with
  | none => rfl
  | some o => rw [f.g0 e] at h; cases h
theorem Fr.noneF {F : List Addr} {H H' : Hp} (f : Fr F H H') {q : Addr} (h : H' q = Option.none) (n : q ∉ F) : H q = Option.none := by
  cases e : H q with
  | none => rfl
  | some o => rw [f q o e n] at h; cases h
section
variable {K : PySem.W.Frag} {σ : L2.St} {H : Hp} {D : Ends}
/-! ### statements -/
theorem z_seq {t u : TS} (h : t { D with nx := u D } σ H) : tSeq t u D σ H := h
theorem z_next (h : D.nx σ H) : tNext D σ H := h
theorem z_brk (h : D.bk σ H) : tBreak D σ H := h
theorem z_cont (h : D.ct σ H) : tCont D σ H := h
theorem z_asg {te : TE} {g : TG} (h : te σ H fun x H1 => g x σ H1 D.nx) : tAsg te g D σ H := h
theorem z_drop {te : TE} (h : te σ H fun _ H1 => D.nx σ H1) : tDrop te D σ H := h
theorem z_ret {te : TE} (h : te σ H D.rt) : tRet te D σ H := h
theorem z_retN (h : D.rt .non H) : tRetN D σ H := h
theorem z_ifs {c : TT} {t u : TS} (h : c σ H fun b H1 => if b = true then t D σ H1 else u D σ H1) : tIfS c t u D σ H := h
theorem z_cut {t u : TS} (h : ∃ Mid : L2.St → Hp → Prop, t { D with nx := Mid } σ H ∧ ∀ σ' H', Mid σ' H' → u D σ' H') : Evl.tCut t u D σ H := h
theorem z_aug {i : Nat} {x : V} {te : TE} {ti : TIp} (e : σ[i]? = some (some x)) (h : te σ H fun y H1 => ti x y H1 fun z H2 => D.nx (σ.set i (some z)) H2) : tAug i te ti D σ H := ⟨x, e, h⟩
def oFldS (K : PySem.W.Frag) (f : Str) (x y : V) (D : Hp → Prop) (H : Hp) : Prop := ∃ a C dx fs, x = .ref a ∧ H a = some (.ins C dx fs) ∧ Cls K C ∧ NoAttr K C f ∧ fs.length < 1000 ∧ D (upd H a (.ins C dx (putF f y fs)))
theorem z_flds {ta tv : TE} {f : Str} (h : tv σ H fun y H1 => ta σ H1 fun x H2 => oFldS K f x y (D.nx σ) H2) : sFld K ta tv f D σ H := h
theorem z_flds1 {f : Str} {a C dx : Addr} {fs : List (Str × V)} {y : V} {Q : Hp → Prop} (h1 : H a = some (.ins C dx fs)) (h2 : Cls K C) (h3 : NoAttr K C f) (h4 : fs.length < 1000) (h : ∀ H1, Fr [a] H H1 → H1 a = some (.ins C dx (putF f y fs)) → (∀ b, H b = none → H1 b = none) → Q H1) : oFldS K f (.ref a) y Q H :=
  ⟨a, C, dx, fs, rfl, h1, h2, h3, h4, h _ (Fr.at (by simp)) upd_same (fun b e => by rw [upd_ne (ne_of_none h1 e).symm]; exact e)⟩
def oDPut (x y v : V) (D : Hp → Prop) (H : Hp) : Prop := ∃ a H4, x = .ref a ∧ DPut H a y v H4 ∧ D H4
theorem z_dput {td ty tv : TE} (h : tv σ H fun v H1 => td σ H1 fun x H2 => ty σ H2 fun y H3 => oDPut x y v (D.nx σ) H3) : sDPut td ty tv D σ H := h
theorem upd_free {H : Hp} {a : Addr} {o u : HO} (h1 : H a = some u) : ∀ b, H b = none → upd H a o b = none := fun b e => by rw [upd_ne (ne_of_none h1 e).symm]; exact e
theorem z_dputI {a : Addr} {n : Int} {v : V} {kvs : List (Key × V)} {Q : Hp → Prop} (h1 : H a = some (.dK kvs)) (h2 : kvs.length < sizeLine) (h : ∀ H1, Fr [a] H H1 → H1 a = some (.dK (putK kvs (.inl n) v)) → (∀ b, H b = none → H1 b = none) → Q H1) : oDPut (.ref a) (.int n) v Q H :=
  ⟨a, _, rfl, DPut.k (k := Sum.inl n) h1 h2, h _ (Fr.at (by simp)) upd_same (upd_free h1)⟩
theorem z_dputS {a : Addr} {n : Str} {v : V} {kvs : List (Key × V)} {Q : Hp → Prop} (h1 : H a = some (.dK kvs)) (h2 : kvs.length < sizeLine) (h : ∀ H1, Fr [a] H H1 → H1 a = some (.dK (putK kvs (.inr n) v)) → (∀ b, H b = none → H1 b = none) → Q H1) : oDPut (.ref a) (.str n) v Q H :=
  ⟨a, _, rfl, DPut.k (k := Sum.inr n) h1 h2, h _ (Fr.at (by simp)) upd_same (upd_free h1)⟩
/-! ### targets -/
theorem z_gtup {n : Nat} {t : TGs} {a : Addr} {xs : List V} {Q : L2.St → Hp → Prop} (h1 : H a = some (.tup xs)) (h2 : xs.length = n) (h : t xs σ H Q) : gTup K n t (.ref a) σ H Q := ⟨a, xs, rfl, SqT.of h1, h2, h⟩
theorem z_gcons {t : TG} {u : TGs} {v : V} {r : List V} {Q : L2.St → Hp → Prop} (h : t v σ H fun σ' H' => u r σ' H' Q) : gCons t u (v :: r) σ H Q := ⟨v, r, rfl, h⟩
theorem z_gnil {Q : L2.St → Hp → Prop} (h : Q σ H) : gNil [] σ H Q := ⟨rfl, h⟩
theorem z_gsub {to ti : TE} {t : TSet} {v : V} {Q : L2.St → Hp → Prop} (h : to σ H fun o H1 => ti σ H1 fun i H2 => t o i v H2 fun H3 => Q σ H3) : gSub to ti t v σ H Q := h
theorem z_setL {p : Addr} {xs : List V} {k : Int} {j : Nat} {v : V} {Q : Hp → Prop} (h1 : H p = some (.lst xs)) (h2 : ixN xs.length k = some j) (h : ∀ H1, Fr [p] H H1 → H1 p = some (.lst (xs.set j v)) → (∀ b, H b = none → H1 b = none) → Q H1) : rSetL (.ref p) (.int k) v H Q :=
  ⟨p, xs, k, j, rfl, rfl, h1, h2, h _ (Fr.at (by simp)) upd_same (upd_free h1)⟩
/-! ### expressions -/
variable {Q : VK}
theorem z_c {v : V} (h : Q v H) : tC v σ H Q := h
theorem z_op {r : R2} {ta tb : TE} (h : ta σ H fun x H1 => tb σ H1 fun y H2 => r x y H2 Q) : tOp r ta tb σ H Q := h
theorem z_un {r : V → Hp → VK → Prop} {ta : TE} (h : ta σ H fun x H1 => r x H1 Q) : tUn r ta σ H Q := h
/-- a new thing -/
def oNew (o : HO) (n : Nat) (H : Hp) (Q : VK) : Prop := n ≤ sizeLine ∧ ∀ p, H p = none → Q (.ref p) (upd H p o)
theorem z_tup {t : TA} (h : t σ H fun xs H1 => oNew (.tup xs) xs.length H1 Q) : tTup t σ H Q := h
theorem z_lst {t : TA} (h : t σ H fun xs H1 => oNew (.lst xs) xs.length H1 Q) : tLst t σ H Q := h
theorem z_newL {n : Nat} {o : HO} (hn : n ≤ sizeLine) (h : ∀ p H1, H p = none → Fr [] H H1 → H1 p = some o → Q (.ref p) H1) : oNew o n H Q := ⟨hn, fun p hp => h p _ hp (Fr.new hp) upd_same⟩
theorem sz1 {n : Nat} (h : n ≤ 1000) : n ≤ sizeLine := by rw [sizeLine_eq]; omega
def rListU (K : PySem.W.Frag) : List V → Hp → VK → Prop := fun xs H Q => ∃ p ys, xs = [.ref p] ∧ (SqL K H p ys ∨ SqT K H p ys) ∧ ∀ l, H l = none → Q (.ref l) (upd H l (.lst ys))
theorem call_listU {X : Cx} : CallR X (.type "list") (rListU X.K) := call_list_of
theorem call_listUK {X : Cx} {K : PySem.W.Frag} (e : X.K = K) : CallR X (.type "list") (rListU K) := by subst e; exact call_listU
theorem z_new {o : HO} (h : ∀ p H1, H p = none → Fr [] H H1 → H1 p = some o → Q (.ref p) H1) : ∀ p, H p = none → Q (.ref p) (upd H p o) := fun p hp => h p _ hp (Fr.new hp) upd_same
theorem z_dnew (h : ∀ p H1, H p = none → Fr [] H H1 → H1 p = some (.dK []) → Q (.ref p) H1) : tDNewK σ H Q := fun p hp => h p _ hp (Fr.new hp) upd_same
theorem z_nil {Q : List V → Hp → Prop} (h : Q [] H) : tNil σ H Q := h
theorem z_cons {ta : TE} {tr : TA} {Q : List V → Hp → Prop} (h : ta σ H fun x H1 => tr σ H1 fun xs H2 => Q (x :: xs) H2) : tCons ta tr σ H Q := h
theorem z_cb {r : List V → Hp → VK → Prop} {t : TA} (h : t σ H fun vs H1 => r vs H1 Q) : tCB r t σ H Q := h
theorem z_call {sp : Sp} {dvs : List V} {E : XK} {t : TA} (h : t σ H fun vs H1 => sp (vs ++ dvs) H1 Q E) : tCall sp dvs E t σ H Q := h
def oMeth (C : Addr) (m : Str) (x : V) (R : Hp → Prop) (H : Hp) : Prop := ∃ a dx fs, x = .ref a ∧ H a = some (.ins C dx fs) ∧ fs.lookup m = none ∧ R H
theorem z_meth {C : Addr} {m : Str} {sp : Sp} {dvs : List V} {E : XK} {ta : TE} {t : TA} (h : ta σ H fun x H1 => oMeth C m x (fun H1 => t σ H1 fun vs H2 => sp (x :: (vs ++ dvs)) H2 Q E) H1) : tMeth C m sp dvs E ta t σ H Q := h
theorem z_meth1 {C : Addr} {m : Str} {a dx : Addr} {fs : List (Str × V)} {R : Hp → Prop} (h1 : H a = some (.ins C dx fs)) (h2 : fs.lookup m = none) (h : R H) : oMeth C m (.ref a) R H := ⟨a, dx, fs, rfl, h1, h2, h⟩
theorem z_make {C : Addr} {sp : Sp} {dvs : List V} {E : XK} {t : TA} (h : t σ H fun vs H1 => ∀ x dx, H1 x = none → H1 dx = none → dx ≠ x → sp (.ref x :: (vs ++ dvs)) (upd (upd H1 dx (.own x)) x (.ins C dx [])) (fun v H2 => v = .non ∧ Q (.ref x) H2) E) : tMake C sp dvs E t σ H Q := h
def oFld (K : PySem.W.Frag) (f : Str) (x : V) (H : Hp) (Q : VK) : Prop := ∃ a C dx fs v, x = .ref a ∧ H a = some (.ins C dx fs) ∧ Cls K C ∧ NoAttr K C f ∧ fs.lookup f = some v ∧ Q v H
theorem z_fld {ta : TE} {f : Str} (h : ta σ H fun x H1 => oFld K f x H1 Q) : tFld K ta f σ H Q := h
theorem z_fld1 {f : Str} {a C dx : Addr} {fs : List (Str × V)} {v : V} (h1 : H a = some (.ins C dx fs)) (h2 : Cls K C) (h3 : NoAttr K C f) (h4 : fs.lookup f = some v) (h : Q v H) : oFld K f (.ref a) H Q := ⟨a, C, dx, fs, v, rfl, h1, h2, h3, h4, h⟩
def oBl (x : V) (H : Hp) (Q : Bool → Hp → Prop) : Prop := ∃ k, x = .bl k ∧ Q k H
theorem z_test {t : TE} {Q : Bool → Hp → Prop} (h : t σ H fun x H' => oBl x H' Q) : tTest t σ H Q := h
theorem z_tB {t : TE} {Q : Bool → Hp → Prop} (h : t σ H fun x H' => oBl x H' Q) : tB t σ H Q := h
theorem z_bl {k : Bool} {Q : Bool → Hp → Prop} (h : Q k H) : oBl (.bl k) H Q := ⟨k, rfl, h⟩
def oTru (K : PySem.W.Frag) (x : V) (H : Hp) (Q : Bool → Hp → Prop) : Prop := ∃ k, TruV K x H k ∧ Q k H
theorem z_tru {ta : TE} {Q : Bool → Hp → Prop} (h : ta σ H fun x H' => oTru K x H' Q) : (fun (σ : L2.St) (H : Hp) (Q : Bool → Hp → Prop) => ta σ H fun x H' => ∃ k, TruV K x H' k ∧ Q k H') σ H Q := h
theorem z_truK {ta : TE} {Q : Bool → Hp → Prop} (h : ta σ H fun x H' => oTru K x H' Q) : tTruK K ta σ H Q := h
theorem z_truI {k : Bool → Prop} {x : V} (h : oTru K x H (fun b _ => k b)) : ∃ b, TruV K x H b ∧ k b := h
theorem z_notT {ta : TE} (h : ta σ H fun x H' => oTru K x H' fun k H' => Q (.bl (!k)) H') : tNotT K ta σ H Q := h
theorem z_truB {k : Bool} {Q : Bool → Hp → Prop} (h : Q k H) : oTru K (.bl k) H Q := ⟨k, rfl, h⟩
theorem z_truN {Q : Bool → Hp → Prop} (h : Q false H) : oTru K .non H Q := ⟨false, rfl, h⟩
theorem z_truZ {i : Int} {Q : Bool → Hp → Prop} (h : Q (i != 0) H) : oTru K (.int i) H Q := ⟨_, rfl, h⟩
theorem z_truS {y : Str} {Q : Bool → Hp → Prop} (hl : y.length ≤ sizeLine) (h : Q ((y.length : Int) != 0) H) : oTru K (.str y) H Q := ⟨_, ⟨hl, rfl⟩, h⟩
theorem z_truL {p : Addr} {xs : List V} {Q : Bool → Hp → Prop} (h1 : H p = some (.lst xs)) (h : Q (!xs.isEmpty) H) : oTru K (.ref p) H Q := ⟨_, .inl ⟨_, SqL.of h1, rfl⟩, h⟩
theorem z_truT {p : Addr} {xs : List V} {Q : Bool → Hp → Prop} (h1 : H p = some (.tup xs)) (h : Q (!xs.isEmpty) H) : oTru K (.ref p) H Q := ⟨_, .inr (.inl ⟨_, SqT.of h1, rfl⟩), h⟩
theorem z_truD {p : Addr} {kvs : List (Key × V)} {Q : Bool → Hp → Prop} (h1 : H p = some (.dK kvs)) (h : Q (!kvs.isEmpty) H) : oTru K (.ref p) H Q := ⟨_, .inr (.inr ⟨_, h1, rfl⟩), h⟩
theorem z_tand {t u : TT} {Q : Bool → Hp → Prop} (h : t σ H fun c H1 => if c = true then u σ H1 Q else Q false H1) : tAnd t u σ H Q := h
theorem z_tor {t u : TT} {Q : Bool → Hp → Prop} (h : t σ H fun c H1 => if c = true then Q true H1 else u σ H1 Q) : tOr t u σ H Q := h
theorem z_tnot {t : TT} {Q : Bool → Hp → Prop} (h : t σ H fun c H1 => Q (!c) H1) : tNot t σ H Q := h
theorem z_yes {Q : Bool → Hp → Prop} (h : Q true H) : tYes σ H Q := h
theorem z_andV {ta tb : TE} (h : ta σ H fun x H1 => oBl x H1 fun c H1 => if c = true then tb σ H1 Q else Q (.bl false) H1) : tAndV ta tb σ H Q := h
theorem z_orV {ta tb : TE} (h : ta σ H fun x H1 => oBl x H1 fun c H1 => if c = true then Q (.bl true) H1 else tb σ H1 Q) : tOrV ta tb σ H Q := h
theorem z_tIf {t : TT} {ta tb : TE} (h : t σ H fun c H1 => if c = true then ta σ H1 Q else tb σ H1 Q) : tIf t ta tb σ H Q := h
/-! ### operators -/
theorem z_addI {i j : Int} (h : Q (.int (i + j)) H) : rAddU K (.int i) (.int j) H Q := h
theorem z_addS {i j : Str} (hl : i.length + j.length ≤ sizeLine) (h : Q (.str (i ++ j)) H) : rAddU K (.str i) (.str j) H Q := ⟨hl, h⟩
theorem z_addL {a b : Addr} {xs zs : List V} (h1 : H a = some (.lst xs)) (h2 : H b = some (.lst zs)) (h3 : xs.length + zs.length ≤ sizeLine) (h : ∀ p H1, H p = none → Fr [] H H1 → H1 p = some (.lst (xs ++ zs)) → Q (.ref p) H1) : rAddU K (.ref a) (.ref b) H Q := Or.inl ⟨a, b, xs, zs, rfl, rfl, h1, h2, h3, z_new h⟩
theorem z_rI {C : Int → Int → Prop} {g : Int → Int → V} {i j : Int} (hc : C i j) (h : Q (g i j) H) : rI C g (.int i) (.int j) H Q := ⟨i, j, rfl, rfl, hc, h⟩
theorem z_rI0 {g : Int → Int → V} {i j : Int} (h : Q (g i j) H) : rI0 g (.int i) (.int j) H Q := ⟨i, j, rfl, rfl, h⟩
theorem z_mulI {i j : Int} (hc : CMul i j) (h : Q (.int (i * j)) H) : rMulU (.int i) (.int j) H Q := ⟨hc, h⟩
theorem z_rep {l : Addr} {xs : List V} {k : Int} (n : Nat) (h1 : H l = some (.lst xs)) (hk : k = (n : Int)) (hn : n < 2 ^ 63) (h3 : xs.length * n ≤ sizeLine) (h : ∀ p H1, H p = none → Fr [] H H1 → H1 p = some (.lst (List.replicate n xs).flatten) → Q (.ref p) H1) : rMulU (.ref l) (.int k) H Q := by
  subst hk
  exact ⟨l, n, xs, rfl, rfl, h1, by omega, by omega, by rw [Int.toNat_natCast]; exact h3, z_new (by rw [Int.toNat_natCast]; exact h)⟩
theorem z_rU {g : Int → V} {i : Int} (h : Q (g i) H) : rU g (.int i) H Q := ⟨i, rfl, h⟩
theorem z_ordI {f : Int → Int → Bool} {g : List Nat → List Nat → Bool} {i j : Int} (h : Q (.bl (f i j)) H) : rOrd f g (.int i) (.int j) H Q := h
theorem z_ordS {f : Int → Int → Bool} {g : List Nat → List Nat → Bool} {i j : Str} (h : Q (.bl (g i.cps.toList j.cps.toList)) H) : rOrd f g (.str i) (.str j) H Q := h
theorem z_eqI {i j : Int} (h : Q (.bl (decide (i = j))) H) : rEqU K id (.int i) (.int j) H Q := ⟨rfl, by show Q (.bl (decide (V.int i = V.int j))) H; rw [I_dec]; exact h⟩
theorem z_neI {i j : Int} (h : Q (.bl (!decide (i = j))) H) : rEqU K (!·) (.int i) (.int j) H Q := ⟨rfl, by show Q (.bl (!decide (V.int i = V.int j))) H; rw [I_dec]; exact h⟩
theorem S_dec (a b : Str) : decide (V.str a = V.str b) = decide (a = b) := by
  by_cases h : a = b
  · subst h; simp
  · have : ¬ V.str a = V.str b := fun z => h (V.str.inj z)
    rw [decide_eq_false this, decide_eq_false h]
theorem z_eqS {i j : Str} (h : Q (.bl (decide (i = j))) H) : rEqU K id (.str i) (.str j) H Q := ⟨rfl, by show Q (.bl (decide (V.str i = V.str j))) H; rw [S_dec]; exact h⟩
theorem z_neS {i j : Str} (h : Q (.bl (!decide (i = j))) H) : rEqU K (!·) (.str i) (.str j) H Q := ⟨rfl, by show Q (.bl (!decide (V.str i = V.str j))) H; rw [S_dec]; exact h⟩
theorem z_isNP {x : V} (h : Q (.bl ((decide (x = .non)))) H) : rIsU id x .non H Q := h
theorem z_isNQ {x : V} (h : Q (.bl (!(decide (x = .non)))) H) : rIsU (!·) x .non H Q := h
theorem z_isNiP {i : Int} (h : Q (.bl false) H) : rIsU id (.int i) .non H Q := h
theorem z_isNiN {i : Int} (h : Q (.bl true) H) : rIsU (!·) (.int i) .non H Q := h
theorem z_isNsP {i : Str} (h : Q (.bl false) H) : rIsU id (.str i) .non H Q := h
theorem z_isNsN {i : Str} (h : Q (.bl true) H) : rIsU (!·) (.str i) .non H Q := h
theorem z_isNrP {a : Addr} (h : Q (.bl false) H) : rIsU id (.ref a) .non H Q := h
theorem z_isNrN {a : Addr} (h : Q (.bl true) H) : rIsU (!·) (.ref a) .non H Q := h
theorem z_isNbP {b : Bool} (h : Q (.bl false) H) : rIsU id (.bl b) .non H Q := h
theorem z_isNbN {b : Bool} (h : Q (.bl true) H) : rIsU (!·) (.bl b) .non H Q := h
theorem z_isNnP (h : Q (.bl true) H) : rIsU id .non .non H Q := h
theorem z_isNnN (h : Q (.bl false) H) : rIsU (!·) .non .non H Q := h
theorem z_isBP {x : V} {b : Bool} (h : Q (.bl ((decide (x = .bl b)))) H) : rIsU id x (.bl b) H Q := h
theorem z_isBQ {x : V} {b : Bool} (h : Q (.bl (!(decide (x = .bl b)))) H) : rIsU (!·) x (.bl b) H Q := h
theorem z_ixL {p : Addr} {xs : List V} {i : Int} {v : V} (h1 : H p = some (.lst xs)) (h2 : atI xs i = some v) (h : Q v H) : rIxU K (.ref p) (.int i) H Q := Or.inl ⟨xs, i, v, rfl, Or.inl (SqL.of h1), h2, h⟩
theorem z_ixT {p : Addr} {xs : List V} {i : Int} {v : V} (h1 : H p = some (.tup xs)) (h2 : atI xs i = some v) (h : Q v H) : rIxU K (.ref p) (.int i) H Q := Or.inl ⟨xs, i, v, rfl, Or.inr (SqT.of h1), h2, h⟩
theorem z_ixD {p : Addr} {kvs : List (Key × V)} {n : Int} {v : V} (h1 : H p = some (.dK kvs)) (h2 : valV kvs (.inl n) = some v) (h : Q v H) : rIxU K (.ref p) (.int n) H Q := Or.inr ⟨v, by rw [← h2]; exact DGet.k (k := Sum.inl n) h1, h⟩
theorem z_ixDf {p : Addr} {kvs : List (Key × V)} {od : Obj} {n : Int} {v : V} (h1 : H p = some (.frz od (.dK kvs))) (h2 : valV kvs (.inl n) = some v) (h : Q v H) : rIxU K (.ref p) (.int n) H Q := Or.inr ⟨v, by rw [← h2]; exact .inl ⟨kvs, .inl n, .inr ⟨od, h1⟩, rfl, rfl⟩, h⟩
theorem z_ixDS {p : Addr} {kvs : List (Key × V)} {n : Str} {v : V} (h1 : H p = some (.dK kvs)) (h2 : valV kvs (.inr n) = some v) (h : Q v H) : rIxU K (.ref p) (.str n) H Q := Or.inr ⟨v, by rw [← h2]; exact DGet.k (k := Sum.inr n) h1, h⟩
theorem z_ixS {z : Str} {i : Int} {c : Nat} (h1 : z.length ≤ sizeLine) (h2 : atI z.cps.toList i = some c) (h : Q (.str ⟨#[c]⟩) H) : rIxU K (.str z) (.int i) H Q := ⟨i, c, rfl, h1, h2, h⟩
theorem z_inDIP {p : Addr} {kvs : List (Key × V)} {n : Int} (h1 : H p = some (.dK kvs)) (h : Q (.bl ((valV kvs (.inl n)).isSome)) H) : rInU K id (.int n) (.ref p) H Q := Or.inr ⟨_, DGet.k (k := Sum.inl n) h1, h⟩
theorem z_inDIN {p : Addr} {kvs : List (Key × V)} {n : Int} (h1 : H p = some (.dK kvs)) (h : Q (.bl (!(valV kvs (.inl n)).isSome)) H) : rInU K (!·) (.int n) (.ref p) H Q := Or.inr ⟨_, DGet.k (k := Sum.inl n) h1, h⟩
theorem z_inDfP {p : Addr} {kvs : List (Key × V)} {od : Obj} {n : Int} (h1 : H p = some (.frz od (.dK kvs))) (h : Q (.bl ((valV kvs (.inl n)).isSome)) H) : rInU K id (.int n) (.ref p) H Q := Or.inr ⟨_, .inl ⟨kvs, .inl n, .inr ⟨od, h1⟩, rfl, rfl⟩, h⟩
theorem z_inDfN {p : Addr} {kvs : List (Key × V)} {od : Obj} {n : Int} (h1 : H p = some (.frz od (.dK kvs))) (h : Q (.bl (!(valV kvs (.inl n)).isSome)) H) : rInU K (!·) (.int n) (.ref p) H Q := Or.inr ⟨_, .inl ⟨kvs, .inl n, .inr ⟨od, h1⟩, rfl, rfl⟩, h⟩
theorem z_inDSP {p : Addr} {kvs : List (Key × V)} {n : Str} (h1 : H p = some (.dK kvs)) (h : Q (.bl ((valV kvs (.inr n)).isSome)) H) : rInU K id (.str n) (.ref p) H Q := Or.inr ⟨_, DGet.k (k := Sum.inr n) h1, h⟩
theorem z_inDSN {p : Addr} {kvs : List (Key × V)} {n : Str} (h1 : H p = some (.dK kvs)) (h : Q (.bl (!(valV kvs (.inr n)).isSome)) H) : rInU K (!·) (.str n) (.ref p) H Q := Or.inr ⟨_, DGet.k (k := Sum.inr n) h1, h⟩
theorem z_inLP {p : Addr} {xs : List V} {x : V} (h1 : H p = some (.lst xs)) (h2 : flatV x = true) (h3 : xs.all flatV = true) (h : Q (.bl ((inV x xs))) H) : rInU K id x (.ref p) H Q := Or.inl ⟨xs, Or.inl (SqL.of h1), h2, h3, h⟩
theorem z_inLN {p : Addr} {xs : List V} {x : V} (h1 : H p = some (.lst xs)) (h2 : flatV x = true) (h3 : xs.all flatV = true) (h : Q (.bl (!(inV x xs))) H) : rInU K (!·) x (.ref p) H Q := Or.inl ⟨xs, Or.inl (SqL.of h1), h2, h3, h⟩
theorem z_inTP {p : Addr} {xs : List V} {x : V} (h1 : H p = some (.tup xs)) (h2 : flatV x = true) (h3 : xs.all flatV = true) (h : Q (.bl ((inV x xs))) H) : rInU K id x (.ref p) H Q := Or.inl ⟨xs, Or.inr (SqT.of h1), h2, h3, h⟩
theorem z_inTN {p : Addr} {xs : List V} {x : V} (h1 : H p = some (.tup xs)) (h2 : flatV x = true) (h3 : xs.all flatV = true) (h : Q (.bl (!(inV x xs))) H) : rInU K (!·) x (.ref p) H Q := Or.inl ⟨xs, Or.inr (SqT.of h1), h2, h3, h⟩
def tSlO := @tSl
theorem z_sl {r : V → Option Int → Option Int → Hp → VK → Prop} {te : TE} {tl th : TO} (h : te σ H fun x H1 => tl σ H1 fun l H2 => th σ H2 fun u H3 => r x l u H3 Q) : tSl r te tl th σ H Q := h
theorem z_nopart {Q : Option Int → Hp → Prop} (h : Q none H) : tNoPart σ H Q := h
def oPart (x : V) (H : Hp) (Q : Option Int → Hp → Prop) : Prop := ∃ i, x = .int i ∧ Q (some i) H
theorem z_part {t : TE} {Q : Option Int → Hp → Prop} (h : t σ H fun x H1 => oPart x H1 Q) : tPart t σ H Q := h
theorem z_part1 {i : Int} {Q : Option Int → Hp → Prop} (h : Q (some i) H) : oPart (.int i) H Q := ⟨i, rfl, h⟩
theorem z_slS {z : Str} {lo hi : Option Int} (h1 : z.length ≤ sizeLine) (h : Q (.str (cutS z lo hi)) H) : rSlU K (.str z) lo hi H Q := ⟨h1, h⟩
theorem z_slL {a : Addr} {xs : List V} {lo hi : Option Int} (h1 : H a = some (.lst xs)) (h : ∀ p H1, H p = none → Fr [] H H1 → H1 p = some (.lst (cutV xs lo hi)) → Q (.ref p) H1) : rSlU K (.ref a) lo hi H Q := Or.inl ⟨a, xs, rfl, SqL.of h1, z_new h⟩
/-! ### builtins -/
theorem z_lenS {z : Str} (h1 : z.length ≤ sizeLine) (h : Q (.int z.length) H) : rLenU K [.str z] H Q := ⟨h1, h⟩
theorem z_lenL {p : Addr} {ys : List V} (h1 : H p = some (.lst ys)) (h : Q (.int ys.length) H) : rLenU K [.ref p] H Q := Or.inl ⟨ys, Or.inl (SqL.of h1), h⟩
theorem z_lenT {p : Addr} {ys : List V} (h1 : H p = some (.tup ys)) (h : Q (.int ys.length) H) : rLenU K [.ref p] H Q := Or.inl ⟨ys, Or.inr (SqT.of h1), h⟩
theorem z_lenD {p : Addr} {kvs : List (Key × V)} (h1 : H p = some (.dK kvs)) (h : Q (.int kvs.length) H) : rLenU K [.ref p] H Q := Or.inr ⟨kvs, h1, h⟩
theorem z_intI {i : Int} (h : Q (.int i) H) : rIntU [.int i] H Q := h
theorem z_intB {k : Bool} (h : Q (.int (if k then 1 else 0)) H) : rIntU [.bl k] H Q := h
theorem z_isi {x c : V} {t u : Value} {b : Bool} (h1 : ClsV c u) (h2 : TyX K H x t) (h3 : PySem.W.kitOne K t u = some b) (h : Q (.bl b) H) : rIsi K [x, c] H Q := ⟨x, c, t, u, b, rfl, h1, h2, h3, h⟩
theorem z_isi_int_int {i : Int} (h : Q (.bl true) H) : rIsi K [.int i, .ty "int"] H Q := z_isi (ClsV.ty _) (TyX.base (TyOf.int _)) kt_int_int h
theorem z_isi_int_bool {i : Int} (h : Q (.bl false) H) : rIsi K [.int i, .ty "bool"] H Q := z_isi (ClsV.ty _) (TyX.base (TyOf.int _)) kt_int_bool h
theorem z_isi_int_str {i : Int} (h : Q (.bl false) H) : rIsi K [.int i, .ty "str"] H Q := z_isi (ClsV.ty _) (TyX.base (TyOf.int _)) kt_int_str h
theorem z_isi_int_list {i : Int} (h : Q (.bl false) H) : rIsi K [.int i, .ty "list"] H Q := z_isi (ClsV.ty _) (TyX.base (TyOf.int _)) kt_int_list h
theorem z_isi_int_tuple {i : Int} (h : Q (.bl false) H) : rIsi K [.int i, .ty "tuple"] H Q := z_isi (ClsV.ty _) (TyX.base (TyOf.int _)) kt_int_tuple h
theorem z_isi_int_dict {i : Int} (h : Q (.bl false) H) : rIsi K [.int i, .ty "dict"] H Q := z_isi (ClsV.ty _) (TyX.base (TyOf.int _)) kt_int_dict h
theorem z_isi_str_int {i : Str} (h : Q (.bl false) H) : rIsi K [.str i, .ty "int"] H Q := z_isi (ClsV.ty _) (TyX.base (TyOf.str _)) kt_str_int h
theorem z_isi_str_bool {i : Str} (h : Q (.bl false) H) : rIsi K [.str i, .ty "bool"] H Q := z_isi (ClsV.ty _) (TyX.base (TyOf.str _)) kt_str_bool h
theorem z_isi_str_str {i : Str} (h : Q (.bl true) H) : rIsi K [.str i, .ty "str"] H Q := z_isi (ClsV.ty _) (TyX.base (TyOf.str _)) kt_str_str h
theorem z_isi_str_list {i : Str} (h : Q (.bl false) H) : rIsi K [.str i, .ty "list"] H Q := z_isi (ClsV.ty _) (TyX.base (TyOf.str _)) kt_str_list h
theorem z_isi_str_tuple {i : Str} (h : Q (.bl false) H) : rIsi K [.str i, .ty "tuple"] H Q := z_isi (ClsV.ty _) (TyX.base (TyOf.str _)) kt_str_tuple h
theorem z_isi_str_dict {i : Str} (h : Q (.bl false) H) : rIsi K [.str i, .ty "dict"] H Q := z_isi (ClsV.ty _) (TyX.base (TyOf.str _)) kt_str_dict h
theorem z_isi_bool_int {i : Bool} (h : Q (.bl true) H) : rIsi K [.bl i, .ty "int"] H Q := z_isi (ClsV.ty _) (TyX.base (TyOf.bl _)) kt_bool_int h
theorem z_isi_bool_bool {i : Bool} (h : Q (.bl true) H) : rIsi K [.bl i, .ty "bool"] H Q := z_isi (ClsV.ty _) (TyX.base (TyOf.bl _)) kt_bool_bool h
theorem z_isi_bool_str {i : Bool} (h : Q (.bl false) H) : rIsi K [.bl i, .ty "str"] H Q := z_isi (ClsV.ty _) (TyX.base (TyOf.bl _)) kt_bool_str h
theorem z_isi_bool_list {i : Bool} (h : Q (.bl false) H) : rIsi K [.bl i, .ty "list"] H Q := z_isi (ClsV.ty _) (TyX.base (TyOf.bl _)) kt_bool_list h
theorem z_isi_bool_tuple {i : Bool} (h : Q (.bl false) H) : rIsi K [.bl i, .ty "tuple"] H Q := z_isi (ClsV.ty _) (TyX.base (TyOf.bl _)) kt_bool_tuple h
theorem z_isi_bool_dict {i : Bool} (h : Q (.bl false) H) : rIsi K [.bl i, .ty "dict"] H Q := z_isi (ClsV.ty _) (TyX.base (TyOf.bl _)) kt_bool_dict h
theorem z_isi_NoneType_int  (h : Q (.bl false) H) : rIsi K [.non, .ty "int"] H Q := z_isi (ClsV.ty _) (TyX.base (TyOf.non)) kt_NoneType_int h
theorem z_isi_NoneType_bool  (h : Q (.bl false) H) : rIsi K [.non, .ty "bool"] H Q := z_isi (ClsV.ty _) (TyX.base (TyOf.non)) kt_NoneType_bool h
theorem z_isi_NoneType_str  (h : Q (.bl false) H) : rIsi K [.non, .ty "str"] H Q := z_isi (ClsV.ty _) (TyX.base (TyOf.non)) kt_NoneType_str h
theorem z_isi_NoneType_list  (h : Q (.bl false) H) : rIsi K [.non, .ty "list"] H Q := z_isi (ClsV.ty _) (TyX.base (TyOf.non)) kt_NoneType_list h
theorem z_isi_NoneType_tuple  (h : Q (.bl false) H) : rIsi K [.non, .ty "tuple"] H Q := z_isi (ClsV.ty _) (TyX.base (TyOf.non)) kt_NoneType_tuple h
theorem z_isi_NoneType_dict  (h : Q (.bl false) H) : rIsi K [.non, .ty "dict"] H Q := z_isi (ClsV.ty _) (TyX.base (TyOf.non)) kt_NoneType_dict h
theorem z_isi0 {a : Addr} {c : V} {t u : Value} {b : Bool} (h1 : ClsV c u) (h2 : TyX K H (.ref a) t) (h3 : PySem.W.kitOne K t u = some b) (h : Q (.bl b) H) : rIsi K [.ref a, c] H Q := z_isi h1 h2 h3 h
theorem z_listL {p : Addr} {ys : List V} (h1 : H p = some (.lst ys)) (h : ∀ l H1, H l = none → Fr [] H H1 → H1 l = some (.lst ys) → Q (.ref l) H1) : rListU K [V.ref p] H Q := ⟨p, ys, rfl, Or.inl (SqL.of h1), z_new h⟩
/-! ### methods of lists -/
def oBM (K : PySem.W.Frag) (T : String) (x : V) (R : Hp → Prop) (H : Hp) : Prop := tyV K T x H ∧ R H
theorem z_bm0 {T : String} {r : V → List V → Hp → VK → Prop} {to : TE} (h : to σ H fun x H1 => oBM K T x (fun H1 => r x [] H1 Q) H1) : tBM0 K T r to σ H Q := h
theorem z_bm {T : String} {r : V → List V → Hp → VK → Prop} {to : TE} {t : TA} (h : to σ H fun x H1 => oBM K T x (fun H1 => t σ H1 fun xs H2 => r x xs H2 Q) H1) : tBM K T r to t σ H Q := h
theorem z_bmL {p : Addr} {xs : List V} {R : Hp → Prop} (h1 : H p = some (.lst xs)) (h : R H) : oBM K "list" (.ref p) R H := ⟨Or.inl ⟨rfl, xs, SqL.of h1⟩, h⟩
theorem z_bmS {z : Str} {R : Hp → Prop} (h : R H) : oBM K "str" (.str z) R H := ⟨rfl, h⟩
theorem z_append {l : Addr} {xs : List V} {y : V} (h1 : H l = some (.lst xs)) (h2 : xs.length < sizeLine) (h : ∀ H1, Fr [l] H H1 → H1 l = some (.lst (xs ++ [y])) → (∀ b, H b = none → H1 b = none) → Q .non H1) : rAppend (.ref l) [y] H Q := ⟨l, xs, y, rfl, rfl, h1, h2, h _ (Fr.at (by simp)) upd_same (upd_free h1)⟩
theorem z_extend {l b : Addr} {xs zs : List V} (h1 : H l = some (.lst xs)) (h2 : H b = some (.lst zs)) (h3 : xs.length + zs.length ≤ sizeLine) (h : ∀ H1, Fr [l] H H1 → H1 l = some (.lst (xs ++ zs)) → (∀ b, H b = none → H1 b = none) → Q .non H1) : rExtend (.ref l) [.ref b] H Q := ⟨l, b, xs, zs, rfl, rfl, h1, h2, h3, h _ (Fr.at (by simp)) upd_same (upd_free h1)⟩
theorem z_pop {l : Addr} {xs : List V} {y : V} (h1 : H l = some (.lst xs)) (h2 : xs[xs.length - 1]? = some y) (h : ∀ H1, Fr [l] H H1 → H1 l = some (.lst xs.dropLast) → (∀ b, H b = none → H1 b = none) → Q y H1) : rPop (.ref l) [] H Q := ⟨l, xs, y, rfl, rfl, h1, h2, h _ (Fr.at (by simp)) upd_same (upd_free h1)⟩
/-! ### the heap behind an in-place change, seen from the entry: q is new since H0 -/
theorem Fr.in {H0 H H1 : Hp} {q : Addr} (f : Fr [] H0 H) (g : Fr [q] H H1) (hq : H0 q = Option.none) : Fr [] H0 H1 := fun b o e _ => g b o (f.g0 e) (by
  have : b ≠ q := fun z => by rw [z, hq] at e; cases e
  simpa using this)
/-! ### loops' heads -/
theorem z_for {wi : TI} {g : TG} {tb : TS} (h : wi σ H fun J H1 => ∃ W : Nat → Nat → L2.St → Hp → Prop, (∃ m, W 0 m σ H1) ∧ ∀ i m σ H, W i m σ H →
  (J.stop i H ∧ D.nx σ H) ∨ (J.go i H ∧ ∃ N : L2.St → Hp → Prop, (∀ σ' H', N σ' H' → ∃ m', m' < m ∧ W (i + 1) m' σ' H') ∧ ∀ x H', J.yld i H x H' → g x σ H' fun σ2 H2 => tb { D with nx := N, ct := N, bk := D.nx } σ2 H2)) : tFor wi g tb D σ H := h
def oIter (K : PySem.W.Frag) (x : V) (H : Hp) (R : It → Hp → Prop) : Prop := ∃ a, x = .ref a ∧ (∃ xs, SqL K H a xs) ∧ R (Itl K a) H
theorem z_iList {tl : TE} {R : It → Hp → Prop} (h : tl σ H fun x H1 => oIter K x H1 R) : iList K tl σ H R := h
theorem z_iList1 {p : Addr} {xs : List V} {R : It → Hp → Prop} (h1 : H p = some (.lst xs)) (h : R (Itl K p) H) : oIter K (.ref p) H R := ⟨p, rfl, ⟨xs, SqL.of h1⟩, h⟩
def oRng1 (vs : List V) (H : Hp) (R : It → Hp → Prop) : Prop := ∃ j : Int, vs = [.int j] ∧ -(2 ^ 62) ≤ j ∧ j < 2 ^ 62 ∧ R (Itr 0 j.toNat) H
theorem z_iRng1 {ta : TA} {R : It → Hp → Prop} (h : ta σ H fun vs H1 => oRng1 vs H1 R) : iRng1 ta σ H R := h
theorem z_rng1 {j : Int} (n : Nat) {R : It → Hp → Prop} (e : j = (n : Int)) (h1 : n < 2 ^ 62) (h : R (Itr 0 n) H) : oRng1 [.int j] H R := ⟨j, rfl, by omega, by omega, by subst e; rw [Int.toNat_natCast]; exact h⟩
def oRng2 (vs : List V) (H : Hp) (R : It → Hp → Prop) : Prop := ∃ i j : Int, vs = [.int i, .int j] ∧ (-(2 ^ 62) ≤ i ∧ i < 2 ^ 62 ∧ -(2 ^ 62) ≤ j ∧ j < 2 ^ 62) ∧ R (Itr i (j - i).toNat) H
theorem z_iRng2 {ta : TA} {R : It → Hp → Prop} (h : ta σ H fun vs H1 => oRng2 vs H1 R) : iRng2 ta σ H R := h
theorem z_rng2 {i j : Int} (n : Nat) {R : It → Hp → Prop} (e : (j - i).toNat = n) (h1 : -(2 ^ 62) ≤ i ∧ i < 2 ^ 62 ∧ -(2 ^ 62) ≤ j ∧ j < 2 ^ 62) (h : R (Itr i n) H) : oRng2 [.int i, .int j] H R := ⟨i, j, rfl, h1, by rw [e]; exact h⟩
/-- a comprehension's loop -/
def oLc (J : It) (g : TG) (tt : TT) (te : TE) (vs : List Nat) (σ : L2.St) (H1 : Hp) (Q : VK) : Prop := ∀ D, H1 D = none → ∃ W : Nat → Nat → Hp → Prop, (∃ m, W 0 m (upd H1 D (.lst []))) ∧ ∀ i m H, W i m H →
  (J.stop i H ∧ Q (.ref D) H) ∨ (J.go i H ∧ ∃ N : Hp → Prop, (∀ H', N H' → ∃ m', m' < m ∧ W (i + 1) m' H') ∧ ∀ x H', J.yld i H x H' → g x (wipe σ vs) H' fun σ2 H2 => wipe σ2 vs = wipe σ vs ∧ tt σ2 H2 fun b H3 =>
    if b = true then te σ2 H3 fun y H4 => ∃ acc, H4 D = some (.lst acc) ∧ acc.length < sizeLine ∧ N (upd H4 D (.lst (acc ++ [y]))) else N H3)
theorem z_lc {wi : TI} {g : TG} {tt : TT} {te : TE} {vs : List Nat} (h : wi σ H fun J H1 => oLc J g tt te vs σ H1 Q) : tLc wi g tt te vs σ H Q := h
theorem z_iteTT {A B : Prop} (h : A) : if true = true then A else B := iteT h
theorem z_iteFF {A B : Prop} (h : B) : if false = true then A else B := iteF h
theorem z_iteNT {A B : Prop} (h : B) : if (!true) = true then A else B := h
theorem z_iteNF {A B : Prop} (h : A) : if (!false) = true then A else B := h
theorem z_iteS1 {α : Type} {v : α} {A B : Prop} (h : A) : if (some v).isSome = true then A else B := h
theorem z_iteS2 {α : Type} {v : α} {A B : Prop} (h : B) : if (!(some v).isSome) = true then A else B := h
theorem z_iteS3 {α : Type} {A B : Prop} (h : B) : if (none : Option α).isSome = true then A else B := h
theorem z_iteS4 {α : Type} {A B : Prop} (h : A) : if (!(none : Option α).isSome) = true then A else B := h
theorem z_lockAsg {te : TE} {i : Nat} (h : tLockE te σ H fun x H1 => gName i x σ H1 D.nx) : tLock (tAsg te (gName i)) D σ H := h
theorem z_sortedL {a : Addr} {ns : List Int} (h1 : H a = some (.lst (ns.map V.int))) (h : ∀ (ns' : List Int) p H1, ns'.Perm ns → ns'.Pairwise (· ≤ ·) → H p = none → Fr [] H H1 → H1 p = some (.lst (ns'.map V.int)) → Q (.ref p) H1) : rSortedU K [.ref a] H Q := ⟨a, ns, rfl, Or.inl (SqL.of h1), fun ns' p e1 e2 hp => h ns' p _ e1 e2 hp (Fr.new hp) upd_same⟩
theorem z_sortedD {a : Addr} {kvs : List (Key × V)} {ns : List Int} (h1 : H a = some (.dK kvs)) (h2 : kvs.map (·.1) = ns.map Sum.inl) (h : ∀ (ns' : List Int) p H1, ns'.Perm ns → ns'.Pairwise (· ≤ ·) → H p = none → Fr [] H H1 → H1 p = some (.lst (ns'.map V.int)) → Q (.ref p) H1) : rSortedU K [.ref a] H Q := ⟨a, ns, rfl, Or.inr ⟨kvs, Rd.of h1, h2⟩, fun ns' p e1 e2 hp => h ns' p _ e1 e2 hp (Fr.new hp) upd_same⟩
theorem z_start {N : List Str} {vs : List V} {t : TS} {σ : L2.St} (e : L2.start N vs = σ) (h : t D σ H) : t D (L2.start N vs) H := by rw [e]; exact h
theorem z_ok {A B : Prop} (a : A) (b : B) : A ∧ B := ⟨a, b⟩
theorem z_var0 {v : V} {l : L2.St} (h : Q v H) : tVar 0 (some v :: l) H Q := ⟨v, rfl, h⟩
theorem z_nm0 {y : Option V} {v : V} {l : L2.St} {Q : L2.St → Hp → Prop} (h : Q (some v :: l) H) : gName 0 v (y :: l) H Q := h
theorem z_var1 {x0 : Option V} {v : V} {l : L2.St} (h : Q v H) : tVar 1 (x0 :: some v :: l) H Q := ⟨v, rfl, h⟩
theorem z_nm1 {x0 : Option V} {y : Option V} {v : V} {l : L2.St} {Q : L2.St → Hp → Prop} (h : Q (x0 :: some v :: l) H) : gName 1 v (x0 :: y :: l) H Q := h
theorem z_var2 {x0 x1 : Option V} {v : V} {l : L2.St} (h : Q v H) : tVar 2 (x0 :: x1 :: some v :: l) H Q := ⟨v, rfl, h⟩
theorem z_nm2 {x0 x1 : Option V} {y : Option V} {v : V} {l : L2.St} {Q : L2.St → Hp → Prop} (h : Q (x0 :: x1 :: some v :: l) H) : gName 2 v (x0 :: x1 :: y :: l) H Q := h
theorem z_var3 {x0 x1 x2 : Option V} {v : V} {l : L2.St} (h : Q v H) : tVar 3 (x0 :: x1 :: x2 :: some v :: l) H Q := ⟨v, rfl, h⟩
theorem z_nm3 {x0 x1 x2 : Option V} {y : Option V} {v : V} {l : L2.St} {Q : L2.St → Hp → Prop} (h : Q (x0 :: x1 :: x2 :: some v :: l) H) : gName 3 v (x0 :: x1 :: x2 :: y :: l) H Q := h
theorem z_var4 {x0 x1 x2 x3 : Option V} {v : V} {l : L2.St} (h : Q v H) : tVar 4 (x0 :: x1 :: x2 :: x3 :: some v :: l) H Q := ⟨v, rfl, h⟩
theorem z_nm4 {x0 x1 x2 x3 : Option V} {y : Option V} {v : V} {l : L2.St} {Q : L2.St → Hp → Prop} (h : Q (x0 :: x1 :: x2 :: x3 :: some v :: l) H) : gName 4 v (x0 :: x1 :: x2 :: x3 :: y :: l) H Q := h
theorem z_var5 {x0 x1 x2 x3 x4 : Option V} {v : V} {l : L2.St} (h : Q v H) : tVar 5 (x0 :: x1 :: x2 :: x3 :: x4 :: some v :: l) H Q := ⟨v, rfl, h⟩
theorem z_nm5 {x0 x1 x2 x3 x4 : Option V} {y : Option V} {v : V} {l : L2.St} {Q : L2.St → Hp → Prop} (h : Q (x0 :: x1 :: x2 :: x3 :: x4 :: some v :: l) H) : gName 5 v (x0 :: x1 :: x2 :: x3 :: x4 :: y :: l) H Q := h
theorem z_var6 {x0 x1 x2 x3 x4 x5 : Option V} {v : V} {l : L2.St} (h : Q v H) : tVar 6 (x0 :: x1 :: x2 :: x3 :: x4 :: x5 :: some v :: l) H Q := ⟨v, rfl, h⟩
theorem z_nm6 {x0 x1 x2 x3 x4 x5 : Option V} {y : Option V} {v : V} {l : L2.St} {Q : L2.St → Hp → Prop} (h : Q (x0 :: x1 :: x2 :: x3 :: x4 :: x5 :: some v :: l) H) : gName 6 v (x0 :: x1 :: x2 :: x3 :: x4 :: x5 :: y :: l) H Q := h
theorem z_var7 {x0 x1 x2 x3 x4 x5 x6 : Option V} {v : V} {l : L2.St} (h : Q v H) : tVar 7 (x0 :: x1 :: x2 :: x3 :: x4 :: x5 :: x6 :: some v :: l) H Q := ⟨v, rfl, h⟩
theorem z_nm7 {x0 x1 x2 x3 x4 x5 x6 : Option V} {y : Option V} {v : V} {l : L2.St} {Q : L2.St → Hp → Prop} (h : Q (x0 :: x1 :: x2 :: x3 :: x4 :: x5 :: x6 :: some v :: l) H) : gName 7 v (x0 :: x1 :: x2 :: x3 :: x4 :: x5 :: x6 :: y :: l) H Q := h
theorem z_var8 {x0 x1 x2 x3 x4 x5 x6 x7 : Option V} {v : V} {l : L2.St} (h : Q v H) : tVar 8 (x0 :: x1 :: x2 :: x3 :: x4 :: x5 :: x6 :: x7 :: some v :: l) H Q := ⟨v, rfl, h⟩
theorem z_nm8 {x0 x1 x2 x3 x4 x5 x6 x7 : Option V} {y : Option V} {v : V} {l : L2.St} {Q : L2.St → Hp → Prop} (h : Q (x0 :: x1 :: x2 :: x3 :: x4 :: x5 :: x6 :: x7 :: some v :: l) H) : gName 8 v (x0 :: x1 :: x2 :: x3 :: x4 :: x5 :: x6 :: x7 :: y :: l) H Q := h
theorem z_var9 {x0 x1 x2 x3 x4 x5 x6 x7 x8 : Option V} {v : V} {l : L2.St} (h : Q v H) : tVar 9 (x0 :: x1 :: x2 :: x3 :: x4 :: x5 :: x6 :: x7 :: x8 :: some v :: l) H Q := ⟨v, rfl, h⟩
theorem z_nm9 {x0 x1 x2 x3 x4 x5 x6 x7 x8 : Option V} {y : Option V} {v : V} {l : L2.St} {Q : L2.St → Hp → Prop} (h : Q (x0 :: x1 :: x2 :: x3 :: x4 :: x5 :: x6 :: x7 :: x8 :: some v :: l) H) : gName 9 v (x0 :: x1 :: x2 :: x3 :: x4 :: x5 :: x6 :: x7 :: x8 :: y :: l) H Q := h
theorem z_var10 {x0 x1 x2 x3 x4 x5 x6 x7 x8 x9 : Option V} {v : V} {l : L2.St} (h : Q v H) : tVar 10 (x0 :: x1 :: x2 :: x3 :: x4 :: x5 :: x6 :: x7 :: x8 :: x9 :: some v :: l) H Q := ⟨v, rfl, h⟩
theorem z_nm10 {x0 x1 x2 x3 x4 x5 x6 x7 x8 x9 : Option V} {y : Option V} {v : V} {l : L2.St} {Q : L2.St → Hp → Prop} (h : Q (x0 :: x1 :: x2 :: x3 :: x4 :: x5 :: x6 :: x7 :: x8 :: x9 :: some v :: l) H) : gName 10 v (x0 :: x1 :: x2 :: x3 :: x4 :: x5 :: x6 :: x7 :: x8 :: x9 :: y :: l) H Q := h
theorem z_var11 {x0 x1 x2 x3 x4 x5 x6 x7 x8 x9 x10 : Option V} {v : V} {l : L2.St} (h : Q v H) : tVar 11 (x0 :: x1 :: x2 :: x3 :: x4 :: x5 :: x6 :: x7 :: x8 :: x9 :: x10 :: some v :: l) H Q := ⟨v, rfl, h⟩
theorem z_nm11 {x0 x1 x2 x3 x4 x5 x6 x7 x8 x9 x10 : Option V} {y : Option V} {v : V} {l : L2.St} {Q : L2.St → Hp → Prop} (h : Q (x0 :: x1 :: x2 :: x3 :: x4 :: x5 :: x6 :: x7 :: x8 :: x9 :: x10 :: some v :: l) H) : gName 11 v (x0 :: x1 :: x2 :: x3 :: x4 :: x5 :: x6 :: x7 :: x8 :: x9 :: x10 :: y :: l) H Q := h
theorem z_var12 {x0 x1 x2 x3 x4 x5 x6 x7 x8 x9 x10 x11 : Option V} {v : V} {l : L2.St} (h : Q v H) : tVar 12 (x0 :: x1 :: x2 :: x3 :: x4 :: x5 :: x6 :: x7 :: x8 :: x9 :: x10 :: x11 :: some v :: l) H Q := ⟨v, rfl, h⟩
theorem z_nm12 {x0 x1 x2 x3 x4 x5 x6 x7 x8 x9 x10 x11 : Option V} {y : Option V} {v : V} {l : L2.St} {Q : L2.St → Hp → Prop} (h : Q (x0 :: x1 :: x2 :: x3 :: x4 :: x5 :: x6 :: x7 :: x8 :: x9 :: x10 :: x11 :: some v :: l) H) : gName 12 v (x0 :: x1 :: x2 :: x3 :: x4 :: x5 :: x6 :: x7 :: x8 :: x9 :: x10 :: x11 :: y :: l) H Q := h
theorem z_var13 {x0 x1 x2 x3 x4 x5 x6 x7 x8 x9 x10 x11 x12 : Option V} {v : V} {l : L2.St} (h : Q v H) : tVar 13 (x0 :: x1 :: x2 :: x3 :: x4 :: x5 :: x6 :: x7 :: x8 :: x9 :: x10 :: x11 :: x12 :: some v :: l) H Q := ⟨v, rfl, h⟩
theorem z_nm13 {x0 x1 x2 x3 x4 x5 x6 x7 x8 x9 x10 x11 x12 : Option V} {y : Option V} {v : V} {l : L2.St} {Q : L2.St → Hp → Prop} (h : Q (x0 :: x1 :: x2 :: x3 :: x4 :: x5 :: x6 :: x7 :: x8 :: x9 :: x10 :: x11 :: x12 :: some v :: l) H) : gName 13 v (x0 :: x1 :: x2 :: x3 :: x4 :: x5 :: x6 :: x7 :: x8 :: x9 :: x10 :: x11 :: x12 :: y :: l) H Q := h
theorem z_var14 {x0 x1 x2 x3 x4 x5 x6 x7 x8 x9 x10 x11 x12 x13 : Option V} {v : V} {l : L2.St} (h : Q v H) : tVar 14 (x0 :: x1 :: x2 :: x3 :: x4 :: x5 :: x6 :: x7 :: x8 :: x9 :: x10 :: x11 :: x12 :: x13 :: some v :: l) H Q := ⟨v, rfl, h⟩
theorem z_nm14 {x0 x1 x2 x3 x4 x5 x6 x7 x8 x9 x10 x11 x12 x13 : Option V} {y : Option V} {v : V} {l : L2.St} {Q : L2.St → Hp → Prop} (h : Q (x0 :: x1 :: x2 :: x3 :: x4 :: x5 :: x6 :: x7 :: x8 :: x9 :: x10 :: x11 :: x12 :: x13 :: some v :: l) H) : gName 14 v (x0 :: x1 :: x2 :: x3 :: x4 :: x5 :: x6 :: x7 :: x8 :: x9 :: x10 :: x11 :: x12 :: x13 :: y :: l) H Q := h
theorem z_var15 {x0 x1 x2 x3 x4 x5 x6 x7 x8 x9 x10 x11 x12 x13 x14 : Option V} {v : V} {l : L2.St} (h : Q v H) : tVar 15 (x0 :: x1 :: x2 :: x3 :: x4 :: x5 :: x6 :: x7 :: x8 :: x9 :: x10 :: x11 :: x12 :: x13 :: x14 :: some v :: l) H Q := ⟨v, rfl, h⟩
theorem z_nm15 {x0 x1 x2 x3 x4 x5 x6 x7 x8 x9 x10 x11 x12 x13 x14 : Option V} {y : Option V} {v : V} {l : L2.St} {Q : L2.St → Hp → Prop} (h : Q (x0 :: x1 :: x2 :: x3 :: x4 :: x5 :: x6 :: x7 :: x8 :: x9 :: x10 :: x11 :: x12 :: x13 :: x14 :: some v :: l) H) : gName 15 v (x0 :: x1 :: x2 :: x3 :: x4 :: x5 :: x6 :: x7 :: x8 :: x9 :: x10 :: x11 :: x12 :: x13 :: x14 :: y :: l) H Q := h
theorem z_var16 {x0 x1 x2 x3 x4 x5 x6 x7 x8 x9 x10 x11 x12 x13 x14 x15 : Option V} {v : V} {l : L2.St} (h : Q v H) : tVar 16 (x0 :: x1 :: x2 :: x3 :: x4 :: x5 :: x6 :: x7 :: x8 :: x9 :: x10 :: x11 :: x12 :: x13 :: x14 :: x15 :: some v :: l) H Q := ⟨v, rfl, h⟩
theorem z_nm16 {x0 x1 x2 x3 x4 x5 x6 x7 x8 x9 x10 x11 x12 x13 x14 x15 : Option V} {y : Option V} {v : V} {l : L2.St} {Q : L2.St → Hp → Prop} (h : Q (x0 :: x1 :: x2 :: x3 :: x4 :: x5 :: x6 :: x7 :: x8 :: x9 :: x10 :: x11 :: x12 :: x13 :: x14 :: x15 :: some v :: l) H) : gName 16 v (x0 :: x1 :: x2 :: x3 :: x4 :: x5 :: x6 :: x7 :: x8 :: x9 :: x10 :: x11 :: x12 :: x13 :: x14 :: x15 :: y :: l) H Q := h
theorem z_var17 {x0 x1 x2 x3 x4 x5 x6 x7 x8 x9 x10 x11 x12 x13 x14 x15 x16 : Option V} {v : V} {l : L2.St} (h : Q v H) : tVar 17 (x0 :: x1 :: x2 :: x3 :: x4 :: x5 :: x6 :: x7 :: x8 :: x9 :: x10 :: x11 :: x12 :: x13 :: x14 :: x15 :: x16 :: some v :: l) H Q := ⟨v, rfl, h⟩
theorem z_nm17 {x0 x1 x2 x3 x4 x5 x6 x7 x8 x9 x10 x11 x12 x13 x14 x15 x16 : Option V} {y : Option V} {v : V} {l : L2.St} {Q : L2.St → Hp → Prop} (h : Q (x0 :: x1 :: x2 :: x3 :: x4 :: x5 :: x6 :: x7 :: x8 :: x9 :: x10 :: x11 :: x12 :: x13 :: x14 :: x15 :: x16 :: some v :: l) H) : gName 17 v (x0 :: x1 :: x2 :: x3 :: x4 :: x5 :: x6 :: x7 :: x8 :: x9 :: x10 :: x11 :: x12 :: x13 :: x14 :: x15 :: x16 :: y :: l) H Q := h
theorem z_var18 {x0 x1 x2 x3 x4 x5 x6 x7 x8 x9 x10 x11 x12 x13 x14 x15 x16 x17 : Option V} {v : V} {l : L2.St} (h : Q v H) : tVar 18 (x0 :: x1 :: x2 :: x3 :: x4 :: x5 :: x6 :: x7 :: x8 :: x9 :: x10 :: x11 :: x12 :: x13 :: x14 :: x15 :: x16 :: x17 :: some v :: l) H Q := ⟨v, rfl, h⟩
theorem z_nm18 {x0 x1 x2 x3 x4 x5 x6 x7 x8 x9 x10 x11 x12 x13 x14 x15 x16 x17 : Option V} {y : Option V} {v : V} {l : L2.St} {Q : L2.St → Hp → Prop} (h : Q (x0 :: x1 :: x2 :: x3 :: x4 :: x5 :: x6 :: x7 :: x8 :: x9 :: x10 :: x11 :: x12 :: x13 :: x14 :: x15 :: x16 :: x17 :: some v :: l) H) : gName 18 v (x0 :: x1 :: x2 :: x3 :: x4 :: x5 :: x6 :: x7 :: x8 :: x9 :: x10 :: x11 :: x12 :: x13 :: x14 :: x15 :: x16 :: x17 :: y :: l) H Q := h
theorem z_var19 {x0 x1 x2 x3 x4 x5 x6 x7 x8 x9 x10 x11 x12 x13 x14 x15 x16 x17 x18 : Option V} {v : V} {l : L2.St} (h : Q v H) : tVar 19 (x0 :: x1 :: x2 :: x3 :: x4 :: x5 :: x6 :: x7 :: x8 :: x9 :: x10 :: x11 :: x12 :: x13 :: x14 :: x15 :: x16 :: x17 :: x18 :: some v :: l) H Q := ⟨v, rfl, h⟩
theorem z_nm19 {x0 x1 x2 x3 x4 x5 x6 x7 x8 x9 x10 x11 x12 x13 x14 x15 x16 x17 x18 : Option V} {y : Option V} {v : V} {l : L2.St} {Q : L2.St → Hp → Prop} (h : Q (x0 :: x1 :: x2 :: x3 :: x4 :: x5 :: x6 :: x7 :: x8 :: x9 :: x10 :: x11 :: x12 :: x13 :: x14 :: x15 :: x16 :: x17 :: x18 :: some v :: l) H) : gName 19 v (x0 :: x1 :: x2 :: x3 :: x4 :: x5 :: x6 :: x7 :: x8 :: x9 :: x10 :: x11 :: x12 :: x13 :: x14 :: x15 :: x16 :: x17 :: x18 :: y :: l) H Q := h
theorem z_var20 {x0 x1 x2 x3 x4 x5 x6 x7 x8 x9 x10 x11 x12 x13 x14 x15 x16 x17 x18 x19 : Option V} {v : V} {l : L2.St} (h : Q v H) : tVar 20 (x0 :: x1 :: x2 :: x3 :: x4 :: x5 :: x6 :: x7 :: x8 :: x9 :: x10 :: x11 :: x12 :: x13 :: x14 :: x15 :: x16 :: x17 :: x18 :: x19 :: some v :: l) H Q := ⟨v, rfl, h⟩
theorem z_nm20 {x0 x1 x2 x3 x4 x5 x6 x7 x8 x9 x10 x11 x12 x13 x14 x15 x16 x17 x18 x19 : Option V} {y : Option V} {v : V} {l : L2.St} {Q : L2.St → Hp → Prop} (h : Q (x0 :: x1 :: x2 :: x3 :: x4 :: x5 :: x6 :: x7 :: x8 :: x9 :: x10 :: x11 :: x12 :: x13 :: x14 :: x15 :: x16 :: x17 :: x18 :: x19 :: some v :: l) H) : gName 20 v (x0 :: x1 :: x2 :: x3 :: x4 :: x5 :: x6 :: x7 :: x8 :: x9 :: x10 :: x11 :: x12 :: x13 :: x14 :: x15 :: x16 :: x17 :: x18 :: x19 :: y :: l) H Q := h
theorem z_var21 {x0 x1 x2 x3 x4 x5 x6 x7 x8 x9 x10 x11 x12 x13 x14 x15 x16 x17 x18 x19 x20 : Option V} {v : V} {l : L2.St} (h : Q v H) : tVar 21 (x0 :: x1 :: x2 :: x3 :: x4 :: x5 :: x6 :: x7 :: x8 :: x9 :: x10 :: x11 :: x12 :: x13 :: x14 :: x15 :: x16 :: x17 :: x18 :: x19 :: x20 :: some v :: l) H Q := ⟨v, rfl, h⟩
theorem z_nm21 {x0 x1 x2 x3 x4 x5 x6 x7 x8 x9 x10 x11 x12 x13 x14 x15 x16 x17 x18 x19 x20 : Option V} {y : Option V} {v : V} {l : L2.St} {Q : L2.St → Hp → Prop} (h : Q (x0 :: x1 :: x2 :: x3 :: x4 :: x5 :: x6 :: x7 :: x8 :: x9 :: x10 :: x11 :: x12 :: x13 :: x14 :: x15 :: x16 :: x17 :: x18 :: x19 :: x20 :: some v :: l) H) : gName 21 v (x0 :: x1 :: x2 :: x3 :: x4 :: x5 :: x6 :: x7 :: x8 :: x9 :: x10 :: x11 :: x12 :: x13 :: x14 :: x15 :: x16 :: x17 :: x18 :: x19 :: x20 :: y :: l) H Q := h
theorem z_var22 {x0 x1 x2 x3 x4 x5 x6 x7 x8 x9 x10 x11 x12 x13 x14 x15 x16 x17 x18 x19 x20 x21 : Option V} {v : V} {l : L2.St} (h : Q v H) : tVar 22 (x0 :: x1 :: x2 :: x3 :: x4 :: x5 :: x6 :: x7 :: x8 :: x9 :: x10 :: x11 :: x12 :: x13 :: x14 :: x15 :: x16 :: x17 :: x18 :: x19 :: x20 :: x21 :: some v :: l) H Q := ⟨v, rfl, h⟩
theorem z_nm22 {x0 x1 x2 x3 x4 x5 x6 x7 x8 x9 x10 x11 x12 x13 x14 x15 x16 x17 x18 x19 x20 x21 : Option V} {y : Option V} {v : V} {l : L2.St} {Q : L2.St → Hp → Prop} (h : Q (x0 :: x1 :: x2 :: x3 :: x4 :: x5 :: x6 :: x7 :: x8 :: x9 :: x10 :: x11 :: x12 :: x13 :: x14 :: x15 :: x16 :: x17 :: x18 :: x19 :: x20 :: x21 :: some v :: l) H) : gName 22 v (x0 :: x1 :: x2 :: x3 :: x4 :: x5 :: x6 :: x7 :: x8 :: x9 :: x10 :: x11 :: x12 :: x13 :: x14 :: x15 :: x16 :: x17 :: x18 :: x19 :: x20 :: x21 :: y :: l) H Q := h
theorem z_var23 {x0 x1 x2 x3 x4 x5 x6 x7 x8 x9 x10 x11 x12 x13 x14 x15 x16 x17 x18 x19 x20 x21 x22 : Option V} {v : V} {l : L2.St} (h : Q v H) : tVar 23 (x0 :: x1 :: x2 :: x3 :: x4 :: x5 :: x6 :: x7 :: x8 :: x9 :: x10 :: x11 :: x12 :: x13 :: x14 :: x15 :: x16 :: x17 :: x18 :: x19 :: x20 :: x21 :: x22 :: some v :: l) H Q := ⟨v, rfl, h⟩
theorem z_nm23 {x0 x1 x2 x3 x4 x5 x6 x7 x8 x9 x10 x11 x12 x13 x14 x15 x16 x17 x18 x19 x20 x21 x22 : Option V} {y : Option V} {v : V} {l : L2.St} {Q : L2.St → Hp → Prop} (h : Q (x0 :: x1 :: x2 :: x3 :: x4 :: x5 :: x6 :: x7 :: x8 :: x9 :: x10 :: x11 :: x12 :: x13 :: x14 :: x15 :: x16 :: x17 :: x18 :: x19 :: x20 :: x21 :: x22 :: some v :: l) H) : gName 23 v (x0 :: x1 :: x2 :: x3 :: x4 :: x5 :: x6 :: x7 :: x8 :: x9 :: x10 :: x11 :: x12 :: x13 :: x14 :: x15 :: x16 :: x17 :: x18 :: x19 :: x20 :: x21 :: x22 :: y :: l) H Q := h
/-! the same as instances: the step is found by its head -/
class Stp (goal : Prop) (sub : outParam Prop) : Prop where
  h : sub → goal
instance i_z_seq {t u : TS} : Stp (tSeq t u D σ H) (t { D with nx := u D } σ H) := ⟨z_seq⟩
instance i_z_next : Stp (tNext D σ H) (D.nx σ H) := ⟨z_next⟩
instance i_z_brk : Stp (tBreak D σ H) (D.bk σ H) := ⟨z_brk⟩
instance i_z_cont : Stp (tCont D σ H) (D.ct σ H) := ⟨z_cont⟩
instance i_z_asg {te : TE} {g : TG} : Stp (tAsg te g D σ H) (te σ H fun x H1 => g x σ H1 D.nx) := ⟨z_asg⟩
instance i_z_drop {te : TE} : Stp (tDrop te D σ H) (te σ H fun _ H1 => D.nx σ H1) := ⟨z_drop⟩
instance i_z_ret {te : TE} : Stp (tRet te D σ H) (te σ H D.rt) := ⟨z_ret⟩
instance i_z_retN : Stp (tRetN D σ H) (D.rt .non H) := ⟨z_retN⟩
instance i_z_ifs {c : TT} {t u : TS} : Stp (tIfS c t u D σ H) (c σ H fun b H1 => if b = true then t D σ H1 else u D σ H1) := ⟨z_ifs⟩
instance i_z_cut {t u : TS} : Stp (Evl.tCut t u D σ H) (∃ Mid : L2.St → Hp → Prop, t { D with nx := Mid } σ H ∧ ∀ σ' H', Mid σ' H' → u D σ' H') := ⟨z_cut⟩
instance i_z_flds {ta tv : TE} {f : Str} : Stp (sFld K ta tv f D σ H) (tv σ H fun y H1 => ta σ H1 fun x H2 => oFldS K f x y (D.nx σ) H2) := ⟨z_flds⟩
instance i_z_dput {td ty tv : TE} : Stp (sDPut td ty tv D σ H) (tv σ H fun v H1 => td σ H1 fun x H2 => ty σ H2 fun y H3 => oDPut x y v (D.nx σ) H3) := ⟨z_dput⟩
instance i_z_gcons {t : TG} {u : TGs} {v : V} {r : List V} {Q : L2.St → Hp → Prop} : Stp (gCons t u (v :: r) σ H Q) (t v σ H fun σ' H' => u r σ' H' Q) := ⟨z_gcons⟩
instance i_z_gnil {Q : L2.St → Hp → Prop} : Stp (gNil [] σ H Q) (Q σ H) := ⟨z_gnil⟩
instance i_z_gsub {to ti : TE} {t : TSet} {v : V} {Q : L2.St → Hp → Prop} : Stp (gSub to ti t v σ H Q) (to σ H fun o H1 => ti σ H1 fun i H2 => t o i v H2 fun H3 => Q σ H3) := ⟨z_gsub⟩
instance i_z_c {v : V} : Stp (tC v σ H Q) (Q v H) := ⟨z_c⟩
instance i_z_op {r : R2} {ta tb : TE} : Stp (tOp r ta tb σ H Q) (ta σ H fun x H1 => tb σ H1 fun y H2 => r x y H2 Q) := ⟨z_op⟩
instance i_z_un {r : V → Hp → VK → Prop} {ta : TE} : Stp (tUn r ta σ H Q) (ta σ H fun x H1 => r x H1 Q) := ⟨z_un⟩
instance i_z_tup {t : TA} : Stp (tTup t σ H Q) (t σ H fun xs H1 => oNew (.tup xs) xs.length H1 Q) := ⟨z_tup⟩
instance i_z_lst {t : TA} : Stp (tLst t σ H Q) (t σ H fun xs H1 => oNew (.lst xs) xs.length H1 Q) := ⟨z_lst⟩
instance i_z_dnew : Stp (tDNewK σ H Q) (∀ p H1, H p = none → Fr [] H H1 → H1 p = some (.dK []) → Q (.ref p) H1) := ⟨z_dnew⟩
instance i_z_nil {Q : List V → Hp → Prop} : Stp (tNil σ H Q) (Q [] H) := ⟨z_nil⟩
instance i_z_cons {ta : TE} {tr : TA} {Q : List V → Hp → Prop} : Stp (tCons ta tr σ H Q) (ta σ H fun x H1 => tr σ H1 fun xs H2 => Q (x :: xs) H2) := ⟨z_cons⟩
instance i_z_cb {r : List V → Hp → VK → Prop} {t : TA} : Stp (tCB r t σ H Q) (t σ H fun vs H1 => r vs H1 Q) := ⟨z_cb⟩
instance i_z_call {sp : Sp} {dvs : List V} {E : XK} {t : TA} : Stp (tCall sp dvs E t σ H Q) (t σ H fun vs H1 => sp (vs ++ dvs) H1 Q E) := ⟨z_call⟩
instance i_z_meth {C : Addr} {m : Str} {sp : Sp} {dvs : List V} {E : XK} {ta : TE} {t : TA} : Stp (tMeth C m sp dvs E ta t σ H Q) (ta σ H fun x H1 => oMeth C m x (fun H1 => t σ H1 fun vs H2 => sp (x :: (vs ++ dvs)) H2 Q E) H1) := ⟨z_meth⟩
instance i_z_make {C : Addr} {sp : Sp} {dvs : List V} {E : XK} {t : TA} : Stp (tMake C sp dvs E t σ H Q) (t σ H fun vs H1 => ∀ x dx, H1 x = none → H1 dx = none → dx ≠ x → sp (.ref x :: (vs ++ dvs)) (upd (upd H1 dx (.own x)) x (.ins C dx [])) (fun v H2 => v = .non ∧ Q (.ref x) H2) E) := ⟨z_make⟩
instance i_z_fld {ta : TE} {f : Str} : Stp (tFld K ta f σ H Q) (ta σ H fun x H1 => oFld K f x H1 Q) := ⟨z_fld⟩
instance i_z_test {t : TE} {Q : Bool → Hp → Prop} : Stp (tTest t σ H Q) (t σ H fun x H' => oBl x H' Q) := ⟨z_test⟩
instance i_z_tB {t : TE} {Q : Bool → Hp → Prop} : Stp (tB t σ H Q) (t σ H fun x H' => oBl x H' Q) := ⟨z_tB⟩
instance i_z_bl {k : Bool} {Q : Bool → Hp → Prop} : Stp (oBl (.bl k) H Q) (Q k H) := ⟨z_bl⟩
instance i_z_truK {ta : TE} {Q : Bool → Hp → Prop} : Stp (tTruK K ta σ H Q) (ta σ H fun x H' => oTru K x H' Q) := ⟨z_truK⟩
instance i_z_truI {k : Bool → Prop} {x : V} : Stp (∃ b, TruV K x H b ∧ k b) (oTru K x H (fun b _ => k b)) := ⟨z_truI⟩
instance i_z_notT {ta : TE} : Stp (tNotT K ta σ H Q) (ta σ H fun x H' => oTru K x H' fun k H' => Q (.bl (!k)) H') := ⟨z_notT⟩
instance i_z_truB {k : Bool} {Q : Bool → Hp → Prop} : Stp (oTru K (.bl k) H Q) (Q k H) := ⟨z_truB⟩
instance i_z_truN {Q : Bool → Hp → Prop} : Stp (oTru K .non H Q) (Q false H) := ⟨z_truN⟩
instance i_z_truZ {i : Int} {Q : Bool → Hp → Prop} : Stp (oTru K (.int i) H Q) (Q (i != 0) H) := ⟨z_truZ⟩
instance i_z_tand {t u : TT} {Q : Bool → Hp → Prop} : Stp (tAnd t u σ H Q) (t σ H fun c H1 => if c = true then u σ H1 Q else Q false H1) := ⟨z_tand⟩
instance i_z_tor {t u : TT} {Q : Bool → Hp → Prop} : Stp (tOr t u σ H Q) (t σ H fun c H1 => if c = true then Q true H1 else u σ H1 Q) := ⟨z_tor⟩
instance i_z_tnot {t : TT} {Q : Bool → Hp → Prop} : Stp (tNot t σ H Q) (t σ H fun c H1 => Q (!c) H1) := ⟨z_tnot⟩
instance i_z_yes {Q : Bool → Hp → Prop} : Stp (tYes σ H Q) (Q true H) := ⟨z_yes⟩
instance i_z_andV {ta tb : TE} : Stp (tAndV ta tb σ H Q) (ta σ H fun x H1 => oBl x H1 fun c H1 => if c = true then tb σ H1 Q else Q (.bl false) H1) := ⟨z_andV⟩
instance i_z_orV {ta tb : TE} : Stp (tOrV ta tb σ H Q) (ta σ H fun x H1 => oBl x H1 fun c H1 => if c = true then Q (.bl true) H1 else tb σ H1 Q) := ⟨z_orV⟩
instance i_z_tIf {t : TT} {ta tb : TE} : Stp (tIf t ta tb σ H Q) (t σ H fun c H1 => if c = true then ta σ H1 Q else tb σ H1 Q) := ⟨z_tIf⟩
instance i_z_addI {i j : Int} : Stp (rAddU K (.int i) (.int j) H Q) (Q (.int (i + j)) H) := ⟨z_addI⟩
instance i_z_rI0 {g : Int → Int → V} {i j : Int} : Stp (rI0 g (.int i) (.int j) H Q) (Q (g i j) H) := ⟨z_rI0⟩
instance i_z_rU {g : Int → V} {i : Int} : Stp (rU g (.int i) H Q) (Q (g i) H) := ⟨z_rU⟩
instance i_z_ordI {f : Int → Int → Bool} {g : List Nat → List Nat → Bool} {i j : Int} : Stp (rOrd f g (.int i) (.int j) H Q) (Q (.bl (f i j)) H) := ⟨z_ordI⟩
instance i_z_ordS {f : Int → Int → Bool} {g : List Nat → List Nat → Bool} {i j : Str} : Stp (rOrd f g (.str i) (.str j) H Q) (Q (.bl (g i.cps.toList j.cps.toList)) H) := ⟨z_ordS⟩
instance i_z_eqI {i j : Int} : Stp (rEqU K id (.int i) (.int j) H Q) (Q (.bl (decide (i = j))) H) := ⟨z_eqI⟩
instance i_z_neI {i j : Int} : Stp (rEqU K (!·) (.int i) (.int j) H Q) (Q (.bl (!decide (i = j))) H) := ⟨z_neI⟩
instance i_z_eqS {i j : Str} : Stp (rEqU K id (.str i) (.str j) H Q) (Q (.bl (decide (i = j))) H) := ⟨z_eqS⟩
instance i_z_neS {i j : Str} : Stp (rEqU K (!·) (.str i) (.str j) H Q) (Q (.bl (!decide (i = j))) H) := ⟨z_neS⟩
instance i_z_isNP {x : V} : Stp (rIsU id x .non H Q) (Q (.bl ((decide (x = .non)))) H) := ⟨z_isNP⟩
instance i_z_isNQ {x : V} : Stp (rIsU (!·) x .non H Q) (Q (.bl (!(decide (x = .non)))) H) := ⟨z_isNQ⟩
instance i_z_isNiP {i : Int} : Stp (rIsU id (.int i) .non H Q) (Q (.bl false) H) := ⟨z_isNiP⟩
instance i_z_isNiN {i : Int} : Stp (rIsU (!·) (.int i) .non H Q) (Q (.bl true) H) := ⟨z_isNiN⟩
instance i_z_isNsP {i : Str} : Stp (rIsU id (.str i) .non H Q) (Q (.bl false) H) := ⟨z_isNsP⟩
instance i_z_isNsN {i : Str} : Stp (rIsU (!·) (.str i) .non H Q) (Q (.bl true) H) := ⟨z_isNsN⟩
instance i_z_isNrP {a : Addr} : Stp (rIsU id (.ref a) .non H Q) (Q (.bl false) H) := ⟨z_isNrP⟩
instance i_z_isNrN {a : Addr} : Stp (rIsU (!·) (.ref a) .non H Q) (Q (.bl true) H) := ⟨z_isNrN⟩
instance i_z_isNbP {b : Bool} : Stp (rIsU id (.bl b) .non H Q) (Q (.bl false) H) := ⟨z_isNbP⟩
instance i_z_isNbN {b : Bool} : Stp (rIsU (!·) (.bl b) .non H Q) (Q (.bl true) H) := ⟨z_isNbN⟩
instance i_z_isNnP : Stp (rIsU id .non .non H Q) (Q (.bl true) H) := ⟨z_isNnP⟩
instance i_z_isNnN : Stp (rIsU (!·) .non .non H Q) (Q (.bl false) H) := ⟨z_isNnN⟩
instance i_z_isBP {x : V} {b : Bool} : Stp (rIsU id x (.bl b) H Q) (Q (.bl ((decide (x = .bl b)))) H) := ⟨z_isBP⟩
instance i_z_isBQ {x : V} {b : Bool} : Stp (rIsU (!·) x (.bl b) H Q) (Q (.bl (!(decide (x = .bl b)))) H) := ⟨z_isBQ⟩
instance i_z_sl {r : V → Option Int → Option Int → Hp → VK → Prop} {te : TE} {tl th : TO} : Stp (tSl r te tl th σ H Q) (te σ H fun x H1 => tl σ H1 fun l H2 => th σ H2 fun u H3 => r x l u H3 Q) := ⟨z_sl⟩
instance i_z_nopart {Q : Option Int → Hp → Prop} : Stp (tNoPart σ H Q) (Q none H) := ⟨z_nopart⟩
instance i_z_part {t : TE} {Q : Option Int → Hp → Prop} : Stp (tPart t σ H Q) (t σ H fun x H1 => oPart x H1 Q) := ⟨z_part⟩
instance i_z_part1 {i : Int} {Q : Option Int → Hp → Prop} : Stp (oPart (.int i) H Q) (Q (some i) H) := ⟨z_part1⟩
instance i_z_intI {i : Int} : Stp (rIntU [.int i] H Q) (Q (.int i) H) := ⟨z_intI⟩
instance i_z_intB {k : Bool} : Stp (rIntU [.bl k] H Q) (Q (.int (if k then 1 else 0)) H) := ⟨z_intB⟩
instance i_z_isi_int_int {i : Int} : Stp (rIsi K [.int i, .ty "int"] H Q) (Q (.bl true) H) := ⟨z_isi_int_int⟩
instance i_z_isi_int_bool {i : Int} : Stp (rIsi K [.int i, .ty "bool"] H Q) (Q (.bl false) H) := ⟨z_isi_int_bool⟩
instance i_z_isi_int_str {i : Int} : Stp (rIsi K [.int i, .ty "str"] H Q) (Q (.bl false) H) := ⟨z_isi_int_str⟩
instance i_z_isi_int_list {i : Int} : Stp (rIsi K [.int i, .ty "list"] H Q) (Q (.bl false) H) := ⟨z_isi_int_list⟩
instance i_z_isi_int_tuple {i : Int} : Stp (rIsi K [.int i, .ty "tuple"] H Q) (Q (.bl false) H) := ⟨z_isi_int_tuple⟩
instance i_z_isi_int_dict {i : Int} : Stp (rIsi K [.int i, .ty "dict"] H Q) (Q (.bl false) H) := ⟨z_isi_int_dict⟩
instance i_z_isi_str_int {i : Str} : Stp (rIsi K [.str i, .ty "int"] H Q) (Q (.bl false) H) := ⟨z_isi_str_int⟩
instance i_z_isi_str_bool {i : Str} : Stp (rIsi K [.str i, .ty "bool"] H Q) (Q (.bl false) H) := ⟨z_isi_str_bool⟩
instance i_z_isi_str_str {i : Str} : Stp (rIsi K [.str i, .ty "str"] H Q) (Q (.bl true) H) := ⟨z_isi_str_str⟩
instance i_z_isi_str_list {i : Str} : Stp (rIsi K [.str i, .ty "list"] H Q) (Q (.bl false) H) := ⟨z_isi_str_list⟩
instance i_z_isi_str_tuple {i : Str} : Stp (rIsi K [.str i, .ty "tuple"] H Q) (Q (.bl false) H) := ⟨z_isi_str_tuple⟩
instance i_z_isi_str_dict {i : Str} : Stp (rIsi K [.str i, .ty "dict"] H Q) (Q (.bl false) H) := ⟨z_isi_str_dict⟩
instance i_z_isi_bool_int {i : Bool} : Stp (rIsi K [.bl i, .ty "int"] H Q) (Q (.bl true) H) := ⟨z_isi_bool_int⟩
instance i_z_isi_bool_bool {i : Bool} : Stp (rIsi K [.bl i, .ty "bool"] H Q) (Q (.bl true) H) := ⟨z_isi_bool_bool⟩
instance i_z_isi_bool_str {i : Bool} : Stp (rIsi K [.bl i, .ty "str"] H Q) (Q (.bl false) H) := ⟨z_isi_bool_str⟩
instance i_z_isi_bool_list {i : Bool} : Stp (rIsi K [.bl i, .ty "list"] H Q) (Q (.bl false) H) := ⟨z_isi_bool_list⟩
instance i_z_isi_bool_tuple {i : Bool} : Stp (rIsi K [.bl i, .ty "tuple"] H Q) (Q (.bl false) H) := ⟨z_isi_bool_tuple⟩
instance i_z_isi_bool_dict {i : Bool} : Stp (rIsi K [.bl i, .ty "dict"] H Q) (Q (.bl false) H) := ⟨z_isi_bool_dict⟩
instance i_z_bm0 {T : String} {r : V → List V → Hp → VK → Prop} {to : TE} : Stp (tBM0 K T r to σ H Q) (to σ H fun x H1 => oBM K T x (fun H1 => r x [] H1 Q) H1) := ⟨z_bm0⟩
instance i_z_bm {T : String} {r : V → List V → Hp → VK → Prop} {to : TE} {t : TA} : Stp (tBM K T r to t σ H Q) (to σ H fun x H1 => oBM K T x (fun H1 => t σ H1 fun xs H2 => r x xs H2 Q) H1) := ⟨z_bm⟩
instance i_z_bmS {z : Str} {R : Hp → Prop} : Stp (oBM K "str" (.str z) R H) (R H) := ⟨z_bmS⟩
instance i_z_for {wi : TI} {g : TG} {tb : TS} : Stp (tFor wi g tb D σ H) (wi σ H fun J H1 => ∃ W : Nat → Nat → L2.St → Hp → Prop, (∃ m, W 0 m σ H1) ∧ ∀ i m σ H, W i m σ H → (J.stop i H ∧ D.nx σ H) ∨ (J.go i H ∧ ∃ N : L2.St → Hp → Prop, (∀ σ' H', N σ' H' → ∃ m', m' < m ∧ W (i + 1) m' σ' H') ∧ ∀ x H', J.yld i H x H' → g x σ H' fun σ2 H2 => tb { D with nx := N, ct := N, bk := D.nx } σ2 H2)) := ⟨z_for⟩
instance i_z_iList {tl : TE} {R : It → Hp → Prop} : Stp (iList K tl σ H R) (tl σ H fun x H1 => oIter K x H1 R) := ⟨z_iList⟩
instance i_z_iRng1 {ta : TA} {R : It → Hp → Prop} : Stp (iRng1 ta σ H R) (ta σ H fun vs H1 => oRng1 vs H1 R) := ⟨z_iRng1⟩
instance i_z_iRng2 {ta : TA} {R : It → Hp → Prop} : Stp (iRng2 ta σ H R) (ta σ H fun vs H1 => oRng2 vs H1 R) := ⟨z_iRng2⟩
instance i_z_lc {wi : TI} {g : TG} {tt : TT} {te : TE} {vs : List Nat} : Stp (tLc wi g tt te vs σ H Q) (wi σ H fun J H1 => oLc J g tt te vs σ H1 Q) := ⟨z_lc⟩
instance i_z_iteTT {A B : Prop} : Stp (if true = true then A else B) (A) := ⟨z_iteTT⟩
instance i_z_iteFF {A B : Prop} : Stp (if false = true then A else B) (B) := ⟨z_iteFF⟩
instance i_z_iteNT {A B : Prop} : Stp (if (!true) = true then A else B) (B) := ⟨z_iteNT⟩
instance i_z_iteNF {A B : Prop} : Stp (if (!false) = true then A else B) (A) := ⟨z_iteNF⟩
instance i_z_iteS1 {α : Type} {v : α} {A B : Prop} : Stp (if (some v).isSome = true then A else B) (A) := ⟨z_iteS1⟩
instance i_z_iteS2 {α : Type} {v : α} {A B : Prop} : Stp (if (!(some v).isSome) = true then A else B) (B) := ⟨z_iteS2⟩
instance i_z_iteS3 {α : Type} {A B : Prop} : Stp (if (none : Option α).isSome = true then A else B) (B) := ⟨z_iteS3⟩
instance i_z_iteS4 {α : Type} {A B : Prop} : Stp (if (!(none : Option α).isSome) = true then A else B) (A) := ⟨z_iteS4⟩
instance i_z_lockAsg {te : TE} {i : Nat} : Stp (tLock (tAsg te (gName i)) D σ H) (tLockE te σ H fun x H1 => gName i x σ H1 D.nx) := ⟨z_lockAsg⟩
instance i_z_var0 {v : V} {l : L2.St} : Stp (tVar 0 (some v :: l) H Q) (Q v H) := ⟨z_var0⟩
instance i_z_nm0 {y : Option V} {v : V} {l : L2.St} {Q : L2.St → Hp → Prop} : Stp (gName 0 v (y :: l) H Q) (Q (some v :: l) H) := ⟨z_nm0⟩
instance i_z_var1 {x0 : Option V} {v : V} {l : L2.St} : Stp (tVar 1 (x0 :: some v :: l) H Q) (Q v H) := ⟨z_var1⟩
instance i_z_nm1 {x0 : Option V} {y : Option V} {v : V} {l : L2.St} {Q : L2.St → Hp → Prop} : Stp (gName 1 v (x0 :: y :: l) H Q) (Q (x0 :: some v :: l) H) := ⟨z_nm1⟩
instance i_z_var2 {x0 x1 : Option V} {v : V} {l : L2.St} : Stp (tVar 2 (x0 :: x1 :: some v :: l) H Q) (Q v H) := ⟨z_var2⟩
instance i_z_nm2 {x0 x1 : Option V} {y : Option V} {v : V} {l : L2.St} {Q : L2.St → Hp → Prop} : Stp (gName 2 v (x0 :: x1 :: y :: l) H Q) (Q (x0 :: x1 :: some v :: l) H) := ⟨z_nm2⟩
instance i_z_var3 {x0 x1 x2 : Option V} {v : V} {l : L2.St} : Stp (tVar 3 (x0 :: x1 :: x2 :: some v :: l) H Q) (Q v H) := ⟨z_var3⟩
instance i_z_nm3 {x0 x1 x2 : Option V} {y : Option V} {v : V} {l : L2.St} {Q : L2.St → Hp → Prop} : Stp (gName 3 v (x0 :: x1 :: x2 :: y :: l) H Q) (Q (x0 :: x1 :: x2 :: some v :: l) H) := ⟨z_nm3⟩
instance i_z_var4 {x0 x1 x2 x3 : Option V} {v : V} {l : L2.St} : Stp (tVar 4 (x0 :: x1 :: x2 :: x3 :: some v :: l) H Q) (Q v H) := ⟨z_var4⟩
instance i_z_nm4 {x0 x1 x2 x3 : Option V} {y : Option V} {v : V} {l : L2.St} {Q : L2.St → Hp → Prop} : Stp (gName 4 v (x0 :: x1 :: x2 :: x3 :: y :: l) H Q) (Q (x0 :: x1 :: x2 :: x3 :: some v :: l) H) := ⟨z_nm4⟩
instance i_z_var5 {x0 x1 x2 x3 x4 : Option V} {v : V} {l : L2.St} : Stp (tVar 5 (x0 :: x1 :: x2 :: x3 :: x4 :: some v :: l) H Q) (Q v H) := ⟨z_var5⟩
instance i_z_nm5 {x0 x1 x2 x3 x4 : Option V} {y : Option V} {v : V} {l : L2.St} {Q : L2.St → Hp → Prop} : Stp (gName 5 v (x0 :: x1 :: x2 :: x3 :: x4 :: y :: l) H Q) (Q (x0 :: x1 :: x2 :: x3 :: x4 :: some v :: l) H) := ⟨z_nm5⟩
instance i_z_var6 {x0 x1 x2 x3 x4 x5 : Option V} {v : V} {l : L2.St} : Stp (tVar 6 (x0 :: x1 :: x2 :: x3 :: x4 :: x5 :: some v :: l) H Q) (Q v H) := ⟨z_var6⟩
instance i_z_nm6 {x0 x1 x2 x3 x4 x5 : Option V} {y : Option V} {v : V} {l : L2.St} {Q : L2.St → Hp → Prop} : Stp (gName 6 v (x0 :: x1 :: x2 :: x3 :: x4 :: x5 :: y :: l) H Q) (Q (x0 :: x1 :: x2 :: x3 :: x4 :: x5 :: some v :: l) H) := ⟨z_nm6⟩
instance i_z_var7 {x0 x1 x2 x3 x4 x5 x6 : Option V} {v : V} {l : L2.St} : Stp (tVar 7 (x0 :: x1 :: x2 :: x3 :: x4 :: x5 :: x6 :: some v :: l) H Q) (Q v H) := ⟨z_var7⟩
instance i_z_nm7 {x0 x1 x2 x3 x4 x5 x6 : Option V} {y : Option V} {v : V} {l : L2.St} {Q : L2.St → Hp → Prop} : Stp (gName 7 v (x0 :: x1 :: x2 :: x3 :: x4 :: x5 :: x6 :: y :: l) H Q) (Q (x0 :: x1 :: x2 :: x3 :: x4 :: x5 :: x6 :: some v :: l) H) := ⟨z_nm7⟩
instance i_z_var8 {x0 x1 x2 x3 x4 x5 x6 x7 : Option V} {v : V} {l : L2.St} : Stp (tVar 8 (x0 :: x1 :: x2 :: x3 :: x4 :: x5 :: x6 :: x7 :: some v :: l) H Q) (Q v H) := ⟨z_var8⟩
instance i_z_nm8 {x0 x1 x2 x3 x4 x5 x6 x7 : Option V} {y : Option V} {v : V} {l : L2.St} {Q : L2.St → Hp → Prop} : Stp (gName 8 v (x0 :: x1 :: x2 :: x3 :: x4 :: x5 :: x6 :: x7 :: y :: l) H Q) (Q (x0 :: x1 :: x2 :: x3 :: x4 :: x5 :: x6 :: x7 :: some v :: l) H) := ⟨z_nm8⟩
instance i_z_var9 {x0 x1 x2 x3 x4 x5 x6 x7 x8 : Option V} {v : V} {l : L2.St} : Stp (tVar 9 (x0 :: x1 :: x2 :: x3 :: x4 :: x5 :: x6 :: x7 :: x8 :: some v :: l) H Q) (Q v H) := ⟨z_var9⟩
instance i_z_nm9 {x0 x1 x2 x3 x4 x5 x6 x7 x8 : Option V} {y : Option V} {v : V} {l : L2.St} {Q : L2.St → Hp → Prop} : Stp (gName 9 v (x0 :: x1 :: x2 :: x3 :: x4 :: x5 :: x6 :: x7 :: x8 :: y :: l) H Q) (Q (x0 :: x1 :: x2 :: x3 :: x4 :: x5 :: x6 :: x7 :: x8 :: some v :: l) H) := ⟨z_nm9⟩
instance i_z_var10 {x0 x1 x2 x3 x4 x5 x6 x7 x8 x9 : Option V} {v : V} {l : L2.St} : Stp (tVar 10 (x0 :: x1 :: x2 :: x3 :: x4 :: x5 :: x6 :: x7 :: x8 :: x9 :: some v :: l) H Q) (Q v H) := ⟨z_var10⟩
instance i_z_nm10 {x0 x1 x2 x3 x4 x5 x6 x7 x8 x9 : Option V} {y : Option V} {v : V} {l : L2.St} {Q : L2.St → Hp → Prop} : Stp (gName 10 v (x0 :: x1 :: x2 :: x3 :: x4 :: x5 :: x6 :: x7 :: x8 :: x9 :: y :: l) H Q) (Q (x0 :: x1 :: x2 :: x3 :: x4 :: x5 :: x6 :: x7 :: x8 :: x9 :: some v :: l) H) := ⟨z_nm10⟩
instance i_z_var11 {x0 x1 x2 x3 x4 x5 x6 x7 x8 x9 x10 : Option V} {v : V} {l : L2.St} : Stp (tVar 11 (x0 :: x1 :: x2 :: x3 :: x4 :: x5 :: x6 :: x7 :: x8 :: x9 :: x10 :: some v :: l) H Q) (Q v H) := ⟨z_var11⟩
instance i_z_nm11 {x0 x1 x2 x3 x4 x5 x6 x7 x8 x9 x10 : Option V} {y : Option V} {v : V} {l : L2.St} {Q : L2.St → Hp → Prop} : Stp (gName 11 v (x0 :: x1 :: x2 :: x3 :: x4 :: x5 :: x6 :: x7 :: x8 :: x9 :: x10 :: y :: l) H Q) (Q (x0 :: x1 :: x2 :: x3 :: x4 :: x5 :: x6 :: x7 :: x8 :: x9 :: x10 :: some v :: l) H) := ⟨z_nm11⟩
instance i_z_var12 {x0 x1 x2 x3 x4 x5 x6 x7 x8 x9 x10 x11 : Option V} {v : V} {l : L2.St} : Stp (tVar 12 (x0 :: x1 :: x2 :: x3 :: x4 :: x5 :: x6 :: x7 :: x8 :: x9 :: x10 :: x11 :: some v :: l) H Q) (Q v H) := ⟨z_var12⟩
instance i_z_nm12 {x0 x1 x2 x3 x4 x5 x6 x7 x8 x9 x10 x11 : Option V} {y : Option V} {v : V} {l : L2.St} {Q : L2.St → Hp → Prop} : Stp (gName 12 v (x0 :: x1 :: x2 :: x3 :: x4 :: x5 :: x6 :: x7 :: x8 :: x9 :: x10 :: x11 :: y :: l) H Q) (Q (x0 :: x1 :: x2 :: x3 :: x4 :: x5 :: x6 :: x7 :: x8 :: x9 :: x10 :: x11 :: some v :: l) H) := ⟨z_nm12⟩
instance i_z_var13 {x0 x1 x2 x3 x4 x5 x6 x7 x8 x9 x10 x11 x12 : Option V} {v : V} {l : L2.St} : Stp (tVar 13 (x0 :: x1 :: x2 :: x3 :: x4 :: x5 :: x6 :: x7 :: x8 :: x9 :: x10 :: x11 :: x12 :: some v :: l) H Q) (Q v H) := ⟨z_var13⟩
instance i_z_nm13 {x0 x1 x2 x3 x4 x5 x6 x7 x8 x9 x10 x11 x12 : Option V} {y : Option V} {v : V} {l : L2.St} {Q : L2.St → Hp → Prop} : Stp (gName 13 v (x0 :: x1 :: x2 :: x3 :: x4 :: x5 :: x6 :: x7 :: x8 :: x9 :: x10 :: x11 :: x12 :: y :: l) H Q) (Q (x0 :: x1 :: x2 :: x3 :: x4 :: x5 :: x6 :: x7 :: x8 :: x9 :: x10 :: x11 :: x12 :: some v :: l) H) := ⟨z_nm13⟩
instance i_z_var14 {x0 x1 x2 x3 x4 x5 x6 x7 x8 x9 x10 x11 x12 x13 : Option V} {v : V} {l : L2.St} : Stp (tVar 14 (x0 :: x1 :: x2 :: x3 :: x4 :: x5 :: x6 :: x7 :: x8 :: x9 :: x10 :: x11 :: x12 :: x13 :: some v :: l) H Q) (Q v H) := ⟨z_var14⟩
instance i_z_nm14 {x0 x1 x2 x3 x4 x5 x6 x7 x8 x9 x10 x11 x12 x13 : Option V} {y : Option V} {v : V} {l : L2.St} {Q : L2.St → Hp → Prop} : Stp (gName 14 v (x0 :: x1 :: x2 :: x3 :: x4 :: x5 :: x6 :: x7 :: x8 :: x9 :: x10 :: x11 :: x12 :: x13 :: y :: l) H Q) (Q (x0 :: x1 :: x2 :: x3 :: x4 :: x5 :: x6 :: x7 :: x8 :: x9 :: x10 :: x11 :: x12 :: x13 :: some v :: l) H) := ⟨z_nm14⟩
instance i_z_var15 {x0 x1 x2 x3 x4 x5 x6 x7 x8 x9 x10 x11 x12 x13 x14 : Option V} {v : V} {l : L2.St} : Stp (tVar 15 (x0 :: x1 :: x2 :: x3 :: x4 :: x5 :: x6 :: x7 :: x8 :: x9 :: x10 :: x11 :: x12 :: x13 :: x14 :: some v :: l) H Q) (Q v H) := ⟨z_var15⟩
instance i_z_nm15 {x0 x1 x2 x3 x4 x5 x6 x7 x8 x9 x10 x11 x12 x13 x14 : Option V} {y : Option V} {v : V} {l : L2.St} {Q : L2.St → Hp → Prop} : Stp (gName 15 v (x0 :: x1 :: x2 :: x3 :: x4 :: x5 :: x6 :: x7 :: x8 :: x9 :: x10 :: x11 :: x12 :: x13 :: x14 :: y :: l) H Q) (Q (x0 :: x1 :: x2 :: x3 :: x4 :: x5 :: x6 :: x7 :: x8 :: x9 :: x10 :: x11 :: x12 :: x13 :: x14 :: some v :: l) H) := ⟨z_nm15⟩
instance i_z_var16 {x0 x1 x2 x3 x4 x5 x6 x7 x8 x9 x10 x11 x12 x13 x14 x15 : Option V} {v : V} {l : L2.St} : Stp (tVar 16 (x0 :: x1 :: x2 :: x3 :: x4 :: x5 :: x6 :: x7 :: x8 :: x9 :: x10 :: x11 :: x12 :: x13 :: x14 :: x15 :: some v :: l) H Q) (Q v H) := ⟨z_var16⟩
instance i_z_nm16 {x0 x1 x2 x3 x4 x5 x6 x7 x8 x9 x10 x11 x12 x13 x14 x15 : Option V} {y : Option V} {v : V} {l : L2.St} {Q : L2.St → Hp → Prop} : Stp (gName 16 v (x0 :: x1 :: x2 :: x3 :: x4 :: x5 :: x6 :: x7 :: x8 :: x9 :: x10 :: x11 :: x12 :: x13 :: x14 :: x15 :: y :: l) H Q) (Q (x0 :: x1 :: x2 :: x3 :: x4 :: x5 :: x6 :: x7 :: x8 :: x9 :: x10 :: x11 :: x12 :: x13 :: x14 :: x15 :: some v :: l) H) := ⟨z_nm16⟩
instance i_z_var17 {x0 x1 x2 x3 x4 x5 x6 x7 x8 x9 x10 x11 x12 x13 x14 x15 x16 : Option V} {v : V} {l : L2.St} : Stp (tVar 17 (x0 :: x1 :: x2 :: x3 :: x4 :: x5 :: x6 :: x7 :: x8 :: x9 :: x10 :: x11 :: x12 :: x13 :: x14 :: x15 :: x16 :: some v :: l) H Q) (Q v H) := ⟨z_var17⟩
instance i_z_nm17 {x0 x1 x2 x3 x4 x5 x6 x7 x8 x9 x10 x11 x12 x13 x14 x15 x16 : Option V} {y : Option V} {v : V} {l : L2.St} {Q : L2.St → Hp → Prop} : Stp (gName 17 v (x0 :: x1 :: x2 :: x3 :: x4 :: x5 :: x6 :: x7 :: x8 :: x9 :: x10 :: x11 :: x12 :: x13 :: x14 :: x15 :: x16 :: y :: l) H Q) (Q (x0 :: x1 :: x2 :: x3 :: x4 :: x5 :: x6 :: x7 :: x8 :: x9 :: x10 :: x11 :: x12 :: x13 :: x14 :: x15 :: x16 :: some v :: l) H) := ⟨z_nm17⟩
instance i_z_var18 {x0 x1 x2 x3 x4 x5 x6 x7 x8 x9 x10 x11 x12 x13 x14 x15 x16 x17 : Option V} {v : V} {l : L2.St} : Stp (tVar 18 (x0 :: x1 :: x2 :: x3 :: x4 :: x5 :: x6 :: x7 :: x8 :: x9 :: x10 :: x11 :: x12 :: x13 :: x14 :: x15 :: x16 :: x17 :: some v :: l) H Q) (Q v H) := ⟨z_var18⟩
instance i_z_nm18 {x0 x1 x2 x3 x4 x5 x6 x7 x8 x9 x10 x11 x12 x13 x14 x15 x16 x17 : Option V} {y : Option V} {v : V} {l : L2.St} {Q : L2.St → Hp → Prop} : Stp (gName 18 v (x0 :: x1 :: x2 :: x3 :: x4 :: x5 :: x6 :: x7 :: x8 :: x9 :: x10 :: x11 :: x12 :: x13 :: x14 :: x15 :: x16 :: x17 :: y :: l) H Q) (Q (x0 :: x1 :: x2 :: x3 :: x4 :: x5 :: x6 :: x7 :: x8 :: x9 :: x10 :: x11 :: x12 :: x13 :: x14 :: x15 :: x16 :: x17 :: some v :: l) H) := ⟨z_nm18⟩
instance i_z_var19 {x0 x1 x2 x3 x4 x5 x6 x7 x8 x9 x10 x11 x12 x13 x14 x15 x16 x17 x18 : Option V} {v : V} {l : L2.St} : Stp (tVar 19 (x0 :: x1 :: x2 :: x3 :: x4 :: x5 :: x6 :: x7 :: x8 :: x9 :: x10 :: x11 :: x12 :: x13 :: x14 :: x15 :: x16 :: x17 :: x18 :: some v :: l) H Q) (Q v H) := ⟨z_var19⟩
instance i_z_nm19 {x0 x1 x2 x3 x4 x5 x6 x7 x8 x9 x10 x11 x12 x13 x14 x15 x16 x17 x18 : Option V} {y : Option V} {v : V} {l : L2.St} {Q : L2.St → Hp → Prop} : Stp (gName 19 v (x0 :: x1 :: x2 :: x3 :: x4 :: x5 :: x6 :: x7 :: x8 :: x9 :: x10 :: x11 :: x12 :: x13 :: x14 :: x15 :: x16 :: x17 :: x18 :: y :: l) H Q) (Q (x0 :: x1 :: x2 :: x3 :: x4 :: x5 :: x6 :: x7 :: x8 :: x9 :: x10 :: x11 :: x12 :: x13 :: x14 :: x15 :: x16 :: x17 :: x18 :: some v :: l) H) := ⟨z_nm19⟩
instance i_z_var20 {x0 x1 x2 x3 x4 x5 x6 x7 x8 x9 x10 x11 x12 x13 x14 x15 x16 x17 x18 x19 : Option V} {v : V} {l : L2.St} : Stp (tVar 20 (x0 :: x1 :: x2 :: x3 :: x4 :: x5 :: x6 :: x7 :: x8 :: x9 :: x10 :: x11 :: x12 :: x13 :: x14 :: x15 :: x16 :: x17 :: x18 :: x19 :: some v :: l) H Q) (Q v H) := ⟨z_var20⟩
instance i_z_nm20 {x0 x1 x2 x3 x4 x5 x6 x7 x8 x9 x10 x11 x12 x13 x14 x15 x16 x17 x18 x19 : Option V} {y : Option V} {v : V} {l : L2.St} {Q : L2.St → Hp → Prop} : Stp (gName 20 v (x0 :: x1 :: x2 :: x3 :: x4 :: x5 :: x6 :: x7 :: x8 :: x9 :: x10 :: x11 :: x12 :: x13 :: x14 :: x15 :: x16 :: x17 :: x18 :: x19 :: y :: l) H Q) (Q (x0 :: x1 :: x2 :: x3 :: x4 :: x5 :: x6 :: x7 :: x8 :: x9 :: x10 :: x11 :: x12 :: x13 :: x14 :: x15 :: x16 :: x17 :: x18 :: x19 :: some v :: l) H) := ⟨z_nm20⟩
instance i_z_var21 {x0 x1 x2 x3 x4 x5 x6 x7 x8 x9 x10 x11 x12 x13 x14 x15 x16 x17 x18 x19 x20 : Option V} {v : V} {l : L2.St} : Stp (tVar 21 (x0 :: x1 :: x2 :: x3 :: x4 :: x5 :: x6 :: x7 :: x8 :: x9 :: x10 :: x11 :: x12 :: x13 :: x14 :: x15 :: x16 :: x17 :: x18 :: x19 :: x20 :: some v :: l) H Q) (Q v H) := ⟨z_var21⟩
instance i_z_nm21 {x0 x1 x2 x3 x4 x5 x6 x7 x8 x9 x10 x11 x12 x13 x14 x15 x16 x17 x18 x19 x20 : Option V} {y : Option V} {v : V} {l : L2.St} {Q : L2.St → Hp → Prop} : Stp (gName 21 v (x0 :: x1 :: x2 :: x3 :: x4 :: x5 :: x6 :: x7 :: x8 :: x9 :: x10 :: x11 :: x12 :: x13 :: x14 :: x15 :: x16 :: x17 :: x18 :: x19 :: x20 :: y :: l) H Q) (Q (x0 :: x1 :: x2 :: x3 :: x4 :: x5 :: x6 :: x7 :: x8 :: x9 :: x10 :: x11 :: x12 :: x13 :: x14 :: x15 :: x16 :: x17 :: x18 :: x19 :: x20 :: some v :: l) H) := ⟨z_nm21⟩
instance i_z_var22 {x0 x1 x2 x3 x4 x5 x6 x7 x8 x9 x10 x11 x12 x13 x14 x15 x16 x17 x18 x19 x20 x21 : Option V} {v : V} {l : L2.St} : Stp (tVar 22 (x0 :: x1 :: x2 :: x3 :: x4 :: x5 :: x6 :: x7 :: x8 :: x9 :: x10 :: x11 :: x12 :: x13 :: x14 :: x15 :: x16 :: x17 :: x18 :: x19 :: x20 :: x21 :: some v :: l) H Q) (Q v H) := ⟨z_var22⟩
instance i_z_nm22 {x0 x1 x2 x3 x4 x5 x6 x7 x8 x9 x10 x11 x12 x13 x14 x15 x16 x17 x18 x19 x20 x21 : Option V} {y : Option V} {v : V} {l : L2.St} {Q : L2.St → Hp → Prop} : Stp (gName 22 v (x0 :: x1 :: x2 :: x3 :: x4 :: x5 :: x6 :: x7 :: x8 :: x9 :: x10 :: x11 :: x12 :: x13 :: x14 :: x15 :: x16 :: x17 :: x18 :: x19 :: x20 :: x21 :: y :: l) H Q) (Q (x0 :: x1 :: x2 :: x3 :: x4 :: x5 :: x6 :: x7 :: x8 :: x9 :: x10 :: x11 :: x12 :: x13 :: x14 :: x15 :: x16 :: x17 :: x18 :: x19 :: x20 :: x21 :: some v :: l) H) := ⟨z_nm22⟩
instance i_z_var23 {x0 x1 x2 x3 x4 x5 x6 x7 x8 x9 x10 x11 x12 x13 x14 x15 x16 x17 x18 x19 x20 x21 x22 : Option V} {v : V} {l : L2.St} : Stp (tVar 23 (x0 :: x1 :: x2 :: x3 :: x4 :: x5 :: x6 :: x7 :: x8 :: x9 :: x10 :: x11 :: x12 :: x13 :: x14 :: x15 :: x16 :: x17 :: x18 :: x19 :: x20 :: x21 :: x22 :: some v :: l) H Q) (Q v H) := ⟨z_var23⟩
instance i_z_nm23 {x0 x1 x2 x3 x4 x5 x6 x7 x8 x9 x10 x11 x12 x13 x14 x15 x16 x17 x18 x19 x20 x21 x22 : Option V} {y : Option V} {v : V} {l : L2.St} {Q : L2.St → Hp → Prop} : Stp (gName 23 v (x0 :: x1 :: x2 :: x3 :: x4 :: x5 :: x6 :: x7 :: x8 :: x9 :: x10 :: x11 :: x12 :: x13 :: x14 :: x15 :: x16 :: x17 :: x18 :: x19 :: x20 :: x21 :: x22 :: y :: l) H Q) (Q (x0 :: x1 :: x2 :: x3 :: x4 :: x5 :: x6 :: x7 :: x8 :: x9 :: x10 :: x11 :: x12 :: x13 :: x14 :: x15 :: x16 :: x17 :: x18 :: x19 :: x20 :: x21 :: x22 :: some v :: l) H) := ⟨z_nm23⟩
end
end LX
/-! loops and comprehensions, with their new list and a locked dict looked after -/
namespace LX
open PySem PySem.Spec PyProof.Rows L2
theorem nin {a b : Addr} (h : a ≠ b) : a ∉ [b] := by simpa using h
theorem Fr.lock {H H' : Hp} {d : Addr} {u : HO} {od : Obj} (hd : H d = some u) (f : Fr [] (upd H d (.frz od u)) H') : Fr [] H (upd H' d u) := fun b o e _ => by
  by_cases hb : b = d
  · subst hb; rw [hd] at e; cases e; exact upd_same
  · rw [upd_ne hb]
    exact f.g0 (by rw [upd_ne hb]; exact e)
section
variable {K : PySem.W.Frag} {g : TG} {tt : TT} {te : TE} {vs : List Nat} {σ : L2.St} {H H1 : Hp} {R : Addr}
/-- the state of a comprehension's list R, new since H1: i turns are done -/
def LcI (H1 : Hp) (R : Addr) (Pv : Nat → List V → Hp → Prop) (i : Nat) (H' : Hp) : Prop := ∃ xs, xs.length ≤ i ∧ Pv i xs H' ∧ H' R = some (.lst xs) ∧ Fr [] H1 H'
/-- what is asked behind an element y -/
def LcY (H1 : Hp) (R : Addr) (Pv : Nat → List V → Hp → Prop) (i : Nat) (y : V) (H4 : Hp) : Prop := ∃ acc, H4 R = some (.lst acc) ∧ acc.length < sizeLine ∧ LcI H1 R Pv i (upd H4 R (.lst (acc ++ [y])))
theorem z_lcY {Pv : Nat → List V → Hp → Prop} {i : Nat} {y : V} {xs : List V} (hR : H1 R = none) (h1 : H R = some (.lst xs)) (f : Fr [] H1 H) (hl : xs.length ≤ i) (hs : i < sizeLine) (k : ∀ H5, Fr [R] H H5 → Fr [] H1 H5 → (∀ b, H b = none → H5 b = none) → Pv (i + 1) (xs ++ [y]) H5) : LcY H1 R Pv (i + 1) y H :=
  ⟨xs, h1, by omega, xs ++ [y], by rw [List.length_append]; show xs.length + 1 ≤ i + 1; omega, k _ (Fr.at (by simp)) (f.skip hR) (upd_free h1), upd_same, f.skip hR⟩
theorem z_lcN {Pv : Nat → List V → Hp → Prop} {i : Nat} {xs : List V} (h1 : H R = some (.lst xs)) (f : Fr [] H1 H) (hl : xs.length ≤ i) (k : Pv (i + 1) xs H) : LcI H1 R Pv (i + 1) H := ⟨xs, by omega, k, h1, f⟩
/-- a comprehension over a range -/
theorem z_lcR {lo : Int} {n : Nat} {Q : VK} (Pv : Nat → List V → Hp → Prop) (h0 : ∀ R H', H1 R = none → Fr [] H1 H' → Pv 0 [] H')
    (hs : ∀ R i xs H', H1 R = none → i < n → xs.length ≤ i → Pv i xs H' → H' R = some (.lst xs) → Fr [] H1 H' → g (.int (lo + i)) (wipe σ vs) H' fun σ2 H2 => wipe σ2 vs = wipe σ vs ∧ tt σ2 H2 fun b H3 =>
      if b = true then te σ2 H3 fun y H4 => LcY H1 R Pv (i + 1) y H4 else LcI H1 R Pv (i + 1) H3)
    (hd : ∀ R xs H', H1 R = none → Pv n xs H' → xs.length ≤ n → H' R = some (.lst xs) → Fr [] H1 H' → Q (.ref R) H') :
    oLc (Itr lo n) g tt te vs σ H1 Q := fun R hR =>
  lc_range (fun i H' => LcI H1 R Pv i H') ⟨[], Nat.le_refl _, h0 R _ hR (Fr.new hR), upd_same, Fr.new hR⟩ (fun i H' hi ⟨xs, hl, p, hx, f⟩ => hs R i xs H' hR hi hl p hx f) (fun H' ⟨xs, hl, p, hx, f⟩ => hd R xs H' hR p hl hx f)
/-- a comprehension over a list -/
theorem z_lcL {a : Addr} {src : List V} {Q : VK} (ha : H1 a = some (.lst src)) (Pv : Nat → List V → Hp → Prop) (h0 : ∀ R H', H1 R = none → Fr [] H1 H' → Pv 0 [] H')
    (hs : ∀ R i x xs H', H1 R = none → src[i]? = some x → i < src.length → xs.length ≤ i → Pv i xs H' → H' R = some (.lst xs) → Fr [] H1 H' → g x (wipe σ vs) H' fun σ2 H2 => wipe σ2 vs = wipe σ vs ∧ tt σ2 H2 fun b H3 =>
      if b = true then te σ2 H3 fun y H4 => LcY H1 R Pv (i + 1) y H4 else LcI H1 R Pv (i + 1) H3)
    (hd : ∀ R xs H', H1 R = none → Pv src.length xs H' → xs.length ≤ src.length → H' R = some (.lst xs) → Fr [] H1 H' → Q (.ref R) H') :
    oLc (Itl K a) g tt te vs σ H1 Q := fun R hR =>
  lc_list (xs := src) (fun i H' => LcI H1 R Pv i H') ⟨[], Nat.le_refl _, h0 R _ hR (Fr.new hR), upd_same, Fr.new hR⟩ (fun i H' _ ⟨xs, hl, p, hx, f⟩ => SqL.of (f.g0 ha))
    (fun i x H' hi ⟨xs, hl, p, hx, f⟩ => hs R i x xs H' hR hi (List.getElem?_eq_some_iff.mp hi).1 hl p hx f) (fun H' ⟨xs, hl, p, hx, f⟩ => hd R xs H' hR p hl hx f)
theorem Fr.seq {H H' : Hp} {a : Addr} {xs : List V} (f : Fr [] H H') (h : SqL K H a xs) : SqL K H' a xs := (show L2.Same H H' from fun b u e => f.g0 e).seq h
/-- over a list that may be the script -/
theorem z_lcQ {a : Addr} {src : List V} {Q : VK} (ha : SqL K H1 a src) (Pv : Nat → List V → Hp → Prop) (h0 : ∀ R H', H1 R = none → Fr [] H1 H' → Pv 0 [] H')
    (hs : ∀ R i x xs H', H1 R = none → src[i]? = some x → i < src.length → xs.length ≤ i → Pv i xs H' → H' R = some (.lst xs) → Fr [] H1 H' → g x (wipe σ vs) H' fun σ2 H2 => wipe σ2 vs = wipe σ vs ∧ tt σ2 H2 fun b H3 =>
      if b = true then te σ2 H3 fun y H4 => LcY H1 R Pv (i + 1) y H4 else LcI H1 R Pv (i + 1) H3)
    (hd : ∀ R xs H', H1 R = none → Pv src.length xs H' → xs.length ≤ src.length → H' R = some (.lst xs) → Fr [] H1 H' → Q (.ref R) H') :
    oLc (Itl K a) g tt te vs σ H1 Q := fun R hR =>
  lc_list (xs := src) (fun i H' => LcI H1 R Pv i H') ⟨[], Nat.le_refl _, h0 R _ hR (Fr.new hR), upd_same, Fr.new hR⟩ (fun i H' _ ⟨xs, hl, p, hx, f⟩ => f.seq ha)
    (fun i x H' hi ⟨xs, hl, p, hx, f⟩ => hs R i x xs H' hR hi (List.getElem?_eq_some_iff.mp hi).1 hl p hx f) (fun H' ⟨xs, hl, p, hx, f⟩ => hd R xs H' hR p hl hx f)
theorem z_iterQ {p : Addr} {xs : List V} {R : It → Hp → Prop} (h1 : SqL K H p xs) (h : R (Itl K p) H) : oIter K (.ref p) H R := ⟨p, rfl, ⟨xs, h1⟩, h⟩
/-- over a tuple -/
theorem z_lcT {a : Addr} {src : List V} {Q : VK} (ha : H1 a = some (.tup src)) (Pv : Nat → List V → Hp → Prop) (h0 : ∀ R H', H1 R = none → Fr [] H1 H' → Pv 0 [] H')
    (hs : ∀ R i x xs H', H1 R = none → src[i]? = some x → i < src.length → xs.length ≤ i → Pv i xs H' → H' R = some (.lst xs) → Fr [] H1 H' → g x (wipe σ vs) H' fun σ2 H2 => wipe σ2 vs = wipe σ vs ∧ tt σ2 H2 fun b H3 =>
      if b = true then te σ2 H3 fun y H4 => LcY H1 R Pv (i + 1) y H4 else LcI H1 R Pv (i + 1) H3)
    (hd : ∀ R xs H', H1 R = none → Pv src.length xs H' → xs.length ≤ src.length → H' R = some (.lst xs) → Fr [] H1 H' → Q (.ref R) H') :
    oLc (Itt K a) g tt te vs σ H1 Q := fun R hR =>
  lc_tup (xs := src) (fun i H' => LcI H1 R Pv i H') ⟨[], Nat.le_refl _, h0 R _ hR (Fr.new hR), upd_same, Fr.new hR⟩ (fun i H' _ ⟨xs, hl, p, hx, f⟩ => SqT.of (f.g0 ha))
    (fun i x H' hi ⟨xs, hl, p, hx, f⟩ => hs R i x xs H' hR hi (List.getElem?_eq_some_iff.mp hi).1 hl p hx f) (fun H' ⟨xs, hl, p, hx, f⟩ => hd R xs H' hR p hl hx f)
/-- a comprehension over a dict's keys; the dict is locked meanwhile (HF), and free again behind it -/
theorem z_lcK {td : TE} {d : Addr} {kvs : List (Key × V)} {Q : VK} (htd : ∀ H' (R : VK), R (.ref d) H' → td σ H' R) (hd : H d = some (.dK kvs)) (Pv : Nat → List V → Hp → Prop)
    (h0 : ∀ od HF R H', Fr [d] H HF → HF d = some (.frz od (.dK kvs)) → HF R = none → Fr [] HF H' → Pv 0 [] H')
    (hs : ∀ od HF R i k v xs H', Fr [d] H HF → HF d = some (.frz od (.dK kvs)) → HF R = none → kvs[i]? = some (k, v) → i < kvs.length → xs.length ≤ i → Pv i xs H' → H' R = some (.lst xs) → Fr [] HF H' → g (kV k) (wipe σ vs) H' fun σ2 H2 => wipe σ2 vs = wipe σ vs ∧ tt σ2 H2 fun b H3 =>
      if b = true then te σ2 H3 fun y H4 => LcY HF R Pv (i + 1) y H4 else LcI HF R Pv (i + 1) H3)
    (he : ∀ R xs H' H2, H R = none → Pv kvs.length xs H' → xs.length ≤ kvs.length → H2 R = some (.lst xs) → Fr [d] H' H2 → Fr [] H H2 → Q (.ref R) H2) :
    tLockE (tLc (iKeys td) g tt te vs) σ H Q := by
  refine ⟨d, .dK kvs, hd, trivial, fun od => ?_⟩
  refine htd _ _ ⟨d, od, rfl, Or.inl ⟨kvs, upd_same, fun R hR => ?_⟩⟩
  have hF : upd H d (.frz od (.dK kvs)) d = some (.frz od (.dK kvs)) := upd_same
  have fF : Fr [d] H (upd H d (.frz od (.dK kvs))) := Fr.at (by simp)
  have nR : R ≠ d := fun z => by rw [z, upd_same] at hR; cases hR
  have hR0 : H R = none := by rw [upd_ne nR] at hR; exact hR
  have lk : ∀ H', Fr [] (upd H d (.frz od (.dK kvs))) H' → Fr [] H (upd H' d (.dK kvs)) := fun H' f => Fr.lock hd f
  generalize upd H d (.frz od (.dK kvs)) = HF at hF fF hR lk
  refine ⟨fun i m H' => m = kvs.length - i ∧ i ≤ kvs.length ∧ LcI HF R Pv i H', ⟨kvs.length, by simp, Nat.zero_le _, [], Nat.le_refl _, h0 od HF R _ fF hF hR (Fr.new hR), upd_same, Fr.new hR⟩, ?_⟩
  rintro i m H' ⟨rfl, hi, xs, hl, p, hx, f⟩
  by_cases hlt : i < kvs.length
  · refine .inr ⟨⟨f.g0 hF, hlt⟩, fun H' => LcI HF R Pv (i + 1) H', fun H'' p' => ⟨kvs.length - (i + 1), by omega, rfl, hlt, p'⟩, fun x H'' y => ?_⟩
    obtain ⟨e, k, v, hk, ex⟩ := y
    subst e ex
    exact hs od HF R i k v xs _ fF hF hR hk hlt hl p hx f
  · have e : i = kvs.length := by omega
    subst e
    exact .inl ⟨⟨f.g0 hF, Nat.le_refl _⟩, f.g0 hF, he R xs H' _ hR0 p hl (by rw [upd_ne nR]; exact hx) (Fr.at (by simp)) (lk _ f)⟩
/-- a dict locked: HF is H with it locked -/
structure Lk (H : Hp) (d : Addr) (kvs : List (Key × V)) (od : Obj) (HF : Hp) : Prop where
  f : Fr [d] H HF
  at' : HF d = some (.frz od (.dK kvs))
  lk : ∀ F H', d ∉ F → Fr F HF H' → Fr F H (upd H' d (.dK kvs))
theorem Fr.lockF {F : List Addr} {H H' : Hp} {d : Addr} {u : HO} {od : Obj} (hd : H d = some u) (f : Fr F (upd H d (.frz od u)) H') : Fr F H (upd H' d u) := fun b o e n => by
  by_cases hb : b = d
  · subst hb; rw [hd] at e; cases e; exact upd_same
  · rw [upd_ne hb]
    exact f b o (by rw [upd_ne hb]; exact e) n
def FkN (HF : Hp) (F : List Addr) (Pv : Nat → L2.St → Hp → Prop) (i : Nat) (σ : L2.St) (H : Hp) : Prop := Pv i σ H ∧ Fr F HF H
def FkR (d : Addr) (kvs : List (Key × V)) (od : Obj) (R : Hp → Prop) (H : Hp) : Prop := H d = some (.frz od (.dK kvs)) ∧ R (upd H d (.dK kvs))
theorem z_fkR {H HF H3 : Hp} {F : List Addr} {d : Addr} {kvs : List (Key × V)} {od : Obj} {R : Hp → Prop} (L : Lk H d kvs od HF) (hF : d ∉ F) (f : Fr F HF H3) (k : ∀ H4, Fr [d] H3 H4 → Fr F H H4 → R H4) : FkR d kvs od R H3 := ⟨f.g L.at' hF, k _ (Fr.at (by simp)) (L.lk F _ hF f)⟩
theorem z_fkN {HF : Hp} {F : List Addr} {Pv : Nat → L2.St → Hp → Prop} {i : Nat} {σ : L2.St} {H : Hp} (f : Fr F HF H) (k : Pv i σ H) : FkN HF F Pv i σ H := ⟨k, f⟩
/-- a for over a dict's keys; the dict is locked meanwhile; the body may change what F names -/
theorem z_forK {D : Ends} {td : TE} {tb : TS} {d : Addr} {kvs : List (Key × V)} (F : List Addr) (hF : d ∉ F) (htd : ∀ H' (R : VK), R (.ref d) H' → td σ H' R) (hd : H d = some (.dK kvs)) (Pv : Nat → L2.St → Hp → Prop)
    (h0 : ∀ od HF, Lk H d kvs od HF → Pv 0 σ HF)
    (hs : ∀ od HF i k v σ' H', Lk H d kvs od HF → kvs[i]? = some (k, v) → i < kvs.length → Pv i σ' H' → Fr F HF H' → H' d = some (.frz od (.dK kvs)) → g (kV k) σ' H' fun σ2 H2 => tb ⟨FkN HF F Pv (i + 1), fun v H3 => FkR d kvs od (D.rt v) H3, fun σ3 H3 => FkR d kvs od (D.nx σ3) H3, FkN HF F Pv (i + 1)⟩ σ2 H2)
    (he : ∀ σ' H' H2, Pv kvs.length σ' H' → Fr [d] H' H2 → H2 d = some (.dK kvs) → Fr F H H2 → D.nx σ' H2) :
    tLock (tFor (iKeys td) g tb) D σ H := by
  refine ⟨d, .dK kvs, hd, trivial, fun od => ?_⟩
  refine htd _ _ ⟨d, od, rfl, Or.inl ⟨kvs, upd_same, ?_⟩⟩
  have L : Lk H d kvs od (upd H d (.frz od (.dK kvs))) := ⟨Fr.at (by simp), upd_same, fun F H' _ f => Fr.lockF hd f⟩
  generalize upd H d (.frz od (.dK kvs)) = HF at L
  refine ⟨fun i m σ' H' => m = kvs.length - i ∧ i ≤ kvs.length ∧ FkN HF F Pv i σ' H', ⟨kvs.length, by simp, Nat.zero_le _, h0 od HF L, Fr.rfl'⟩, ?_⟩
  rintro i m σ' H' ⟨rfl, hi, p, f⟩
  by_cases hlt : i < kvs.length
  · refine .inr ⟨⟨f.g L.at' hF, hlt⟩, FkN HF F Pv (i + 1), fun σ'' H'' p' => ⟨kvs.length - (i + 1), by omega, rfl, hlt, p'⟩, fun x H'' y => ?_⟩
    obtain ⟨e, k, v, hk, ex⟩ := y
    subst e ex
    exact hs od HF i k v σ' _ L hk hlt p f (f.g L.at' hF)
  · have e : i = kvs.length := by omega
    subst e
    exact .inl ⟨⟨f.g L.at' hF, Nat.le_refl _⟩, f.g L.at' hF, he σ' H' _ p (Fr.at (by simp)) upd_same (L.lk F _ hF f)⟩
end
end LX
/-! more rules: chains, tuples, sorted of tuples -/
namespace LX
open PySem PySem.Spec PyProof.Rows L2
section
variable {K : PySem.W.Frag} {σ : L2.St} {H : Hp} {D : Ends} {Q : VK}
theorem z_chain {r r' : R2} {ta tb tc : TE} (h : ta σ H fun x H1 => tb σ H1 fun y H2 => r x y H2 fun z H3 => oBl z H3 fun k H3 => if k = true then tc σ H3 fun u H4 => r' y u H4 Q else Q (.bl false) H3) : tChain r r' ta tb tc σ H Q := h
instance i_chain {r r' : R2} {ta tb tc : TE} : Stp (tChain r r' ta tb tc σ H Q) (ta σ H fun x H1 => tb σ H1 fun y H2 => r x y H2 fun z H3 => oBl z H3 fun k H3 => if k = true then tc σ H3 fun u H4 => r' y u H4 Q else Q (.bl false) H3) := ⟨z_chain⟩
theorem z_addT {a b : Addr} {xs ys : List V} (h1 : H a = some (.tup xs)) (h2 : H b = some (.tup ys)) (h3 : xs.length + ys.length ≤ sizeLine) (n1 : xs ≠ []) (n2 : ys ≠ []) (h : ∀ p H1, H p = none → Fr [] H H1 → H1 p = some (.tup (xs ++ ys)) → Q (.ref p) H1) : rAddU K (.ref a) (.ref b) H Q :=
  Or.inr ⟨a, b, xs, ys, rfl, rfl, SqT.of h1, SqT.of h2, h3, fun e => absurd e n1, fun _ e => absurd e n2, fun _ _ => z_new h⟩
def rTupU (K : PySem.W.Frag) : List V → Hp → VK → Prop := fun xs H Q => ∃ p ys, xs = [.ref p] ∧ ((SqL K H p ys ∧ ∀ l, H l = none → Q (.ref l) (upd H l (.tup ys))) ∨ (SqT K H p ys ∧ Q (.ref p) H))
theorem call_tupleU {X : Cx} : CallR X (.type "tuple") (rTupU X.K) := call_tuple_of
theorem z_tupL {p : Addr} {ys : List V} (h1 : H p = some (.lst ys)) (h : ∀ l H1, H l = none → Fr [] H H1 → H1 l = some (.tup ys) → Q (.ref l) H1) : rTupU K [.ref p] H Q := ⟨p, ys, rfl, Or.inl ⟨SqL.of h1, z_new h⟩⟩
theorem z_tupT {p : Addr} {ys : List V} (h1 : H p = some (.tup ys)) (h : Q (.ref p) H) : rTupU K [.ref p] H Q := ⟨p, ys, rfl, Or.inr ⟨SqT.of h1, h⟩⟩
/-- sorted of a list of tuples, as data -/
def rSortT (K : PySem.W.Frag) : List V → Hp → VK → Prop := fun vs H Q => ∃ (a : Addr) (bs : List (Addr × PyData)), vs = [.ref a] ∧ SqL K H a (bs.map fun b => V.ref b.1) ∧ (∀ b ∈ bs, Dp K H (.ref b.1) b.2) ∧ (∀ b ∈ bs, ∀ b' ∈ bs, PySem.W.alike b.2 b'.2 = true) ∧ (∀ b ∈ bs, ∃ x r, b.2 = .tuple (x :: r)) ∧ bs.length ≤ sizeLine ∧ (∀ b ∈ bs, b.2.depth ≤ 60) ∧
  ∀ p, H p = none → Q (.ref p) (upd H p (.lst ((bs.mergeSort (PySem.W.dataLe false (fun b : Addr × PyData => b.2))).map fun b => V.ref b.1)))
theorem each_refs : ∀ {bs : List (Addr × PyData)} {its : List Value}, Vals (bs.map fun b => V.ref b.1) its → PySem.W.EachIs (fun v (b : Addr × PyData) => v = .ref b.1) its bs
  | [], _, r => by cases r; exact .nil
  | b :: bs, _, r => by
    cases r with
    | cons h t => exact .cons h (each_refs t)
theorem refs_each : ∀ {bs : List (Addr × PyData)} {its : List Value}, PySem.W.EachIs (fun v (b : Addr × PyData) => v = .ref b.1) its bs → Vals (bs.map fun b => V.ref b.1) its
  | _, _, .nil => .nil
  | _, _, .cons h t => .cons h (refs_each t)
theorem call_sortedT {X : Cx} (hu : X.A.units + 64 < cLine) : CallR X (.builtin "sorted") (rSortT X.K) := by
  intro pins s σ H vs us Q I r h
  obtain ⟨a, bs, rfl, hs, hd, hal, htp, hl, hdep, q⟩ := h
  obtain ⟨its, rv, pl, _⟩ := I.list hs
  rw [Vals.ref1 r]
  have e1 := each_refs rv
  have er : PySem.W.EachIs (fun v (b : Addr × PyData) => ∃ as, Reads s.heap v b.2 as) its bs := PySem.W.EachIs.of_zip e1.length fun p hp => by
    have hm := (List.of_mem_zip hp).2
    have hv := e1.zip p hp
    exact Dp.reads I _ _ _ (hd _ hm) hv
  refine PySem.W.sorted_data (enc := fun b : Addr × PyData => b.2) (by simpa using pl.isList) e1 er (fun d h d' h' => ?_) (.inl fun d h => ?_) hl (fun b hb => by have := hdep b hb; omega) fun out ho eo => ?_
  · obtain ⟨b, hb, rfl⟩ := List.mem_map.mp h
    obtain ⟨b', hb', rfl⟩ := List.mem_map.mp h'
    exact hal b hb b' hb'
  · obtain ⟨b, hb, rfl⟩ := List.mem_map.mp h
    exact htp b hb
  obtain ⟨ep, he'⟩ := PyProof.Rows.sortedAll_at s.heap its out.toArray
  have hlen : ((bs.mergeSort (PySem.W.dataLe false (fun b : Addr × PyData => b.2))).map fun b => V.ref b.1).length ≤ sizeLine := by rw [List.length_map, List.length_mergeSort]; exact hl
  exact ⟨.ref _, upd H (s.heap.objs.size + 1) (.lst ((bs.mergeSort (PySem.W.dataLe false (fun b : Addr × PyData => b.2))).map fun b => V.ref b.1)), I.laid (t' := s.toks) (fun _ _ => PyProof.Rows.sortedAll_old) (Nat.le_succ _) ⟨hlen, out, ep, refs_each eo, he'⟩, rfl, q _ (I.hok.fresh (Nat.le_succ _))⟩
/-- .. already in order -/
theorem z_sortT {a : Addr} {bs : List (Addr × PyData)} (h1 : H a = some (.lst (bs.map fun b => V.ref b.1))) (h2 : ∀ b ∈ bs, Dp K H (.ref b.1) b.2) (h3 : ∀ b ∈ bs, ∀ b' ∈ bs, PySem.W.alike b.2 b'.2 = true) (h4 : ∀ b ∈ bs, ∃ x r, b.2 = .tuple (x :: r)) (h5 : bs.length ≤ sizeLine) (h6 : ∀ b ∈ bs, b.2.depth ≤ 60)
    (h7 : bs.Pairwise fun x y => PySem.W.dataLe false (fun b : Addr × PyData => b.2) x y = true) (h : ∀ p H1, H p = none → Fr [] H H1 → H1 p = some (.lst (bs.map fun b => V.ref b.1)) → Q (.ref p) H1) : rSortT K [.ref a] H Q :=
  ⟨a, bs, rfl, SqL.of h1, h2, h3, h4, h5, h6, by rw [List.mergeSort_of_pairwise h7]; exact fun p hp => h p _ hp (Fr.new hp) upd_same⟩
end
end LX
/-! sorted(d, key=lambda y: d[y]) of a dict of whole numbers by whole numbers, d a captured name -/
namespace LX
open PySem PySem.Spec PySem.W PyProof.Rows L2 NdefX LamX
section
variable {P : Program} {w : World} {A : Around} {s : Shared}
/-- the lambda's call: the captured dict's value -/
theorem look_call {κ : Type} [DecidableEq κ] {knd : PySem.KeyKind P w κ} {f c' cc d : Addr} {qual x y : Str} {params : Arguments} {scope : Scope} {cl : List (Str × Addr)} {pm ctv v : Value} {px py pos : Pos} {fm : κ → Option Value} {k : κ} {i : Int} {t : Tok}
    (hroom : A.depth < recursionLimit) (ho : s.heap.get? f = some (PySem.W.kla_obj "<lambda>" qual params (.Subscript (.Name x px) (.Name y py) pos) scope cl pm c' ctv)) (hc : s.heap.CodeRec (.ref c') qual)
    (hk : scope.kind = .function) (hco : scope.isCoroutine = false) (hge : scope.isGenerator = false) (nocell : ∀ z ∈ scope.names, z.2 ≠ .cell) (hy : scope.names.lookup y = some .local) (hx : scope.names.lookup x = some .free)
    (hcx : cl.lookup x = some cc) (hcell : s.heap.IsCell cc (some (.ref d))) (hm : s.heap.MapOf knd d fm) (hkey : knd.is k v = true) (hval : fm k = some (.int i t)) (lim : s.heap.NoLimit)
    (hbind : ∀ (pm cv ctv : Value), bindArgs (PySem.W.kla_fn "<lambda>" qual params (.Subscript (.Name x px) (.Name y py) pos) scope cl pm cv ctv) ⟨[v], []⟩ = pure [(y, v)])
    (dx : (x == ("__debug__" : Str)) = false) (dy : (y == ("__debug__" : Str)) = false) (cdx : (x == ("__classdict__" : Str)) = false) :
    wpAny (model P w) A (call (.ref f) [v]) (KeyPure (.int i) s) (fun _ _ => False) s := by
  have rc : codeAny (model P w) A (.call (.ref f) ⟨[v], []⟩) (fun r s' => ∃ u, r = .ok (.ret u) ∧ KeyPure (.int i) s u s') s := by
    refine PySem.W.kla_callFunE hroom ho rfl hco hge rfl hc ?_
    rw [hbind]
    refine wpAny_pure (wpAny_newFunctionEnv nocell (fun z hz => ?_) (fun h₁ hns hsb => ⟨lim.fresh _ hsb, ?_⟩) hk)
    · have e : z = (y, v) := by simpa using hz
      rw [e]; exact hy
    show codeAny _ _ (.expr (.Subscript (.Name x px) (.Name y py) pos) (PySem.W.envX qual scope s.heap.objs.size f (.ref c') cl)) _ _
    have kp : ∀ b o, s.heap.get? b = some o → h₁.get? b = some o := fun b o e => hsb.extBut b o (Nat.ne_of_lt (Heap.lt_size e)) (Heap.get?_push_of_some _ e)
    have hcell' : h₁.IsCell cc (some (.ref d)) := by
      obtain ⟨o, h1, h2⟩ := hcell
      exact ⟨o, kp _ _ h1, h2⟩
    have hm' : h₁.MapOf knd d fm := by
      obtain ⟨o, es, ep, h1, h2⟩ := hm
      exact ⟨o, es, ep, kp _ _ h1, h2⟩
    refine PySem.W.kla_codeExpr ?_
    refine subD_of PySem.F.slot_dict_getitem.lookup (fun _ _ => rfl) ?_
    refine wpAny_Name (wpAny_loadName_free hk hx hcx hcell' ?_ cdx) dx
    refine wpAny_Name (wpAny_loadName_local hk hy hns (zip_look (ps := [y]) (us := [v]) (i := 0) (by simp) rfl rfl) ?_) dy
    refine ⟨hm'.typeIs, ?_⟩
    refine wpAny_getItem_of hkey hm' hval ?_
    exact ⟨_, rfl, _, _, rfl, kp, .int i t⟩
  refine wpAny_call (codeAny_mono rc fun r s' hq => ?_)
  obtain ⟨u, rfl, hq⟩ := hq
  exact hq
end
/-- a dict of whole numbers by whole numbers -/
def pD (ps : List (Int × Int)) : List (Key × V) := ps.map fun p => (.inl p.1, .int p.2)
theorem pD_val {ps : List (Int × Int)} {n i : Int} (nd : (ps.map (·.1)).Nodup) (h : (n, i) ∈ ps) : valV (pD ps) (.inl n) = some (.int i) := by
  induction ps with
  | nil => simp at h
  | cons p r ih =>
    obtain ⟨h1, h2⟩ := List.nodup_cons.mp nd
    unfold pD at ih ⊢
    rw [List.map_cons]
    rcases List.mem_cons.mp h with e | e
    · subst e
      exact valV_pos (p := (Sum.inl n, V.int i)) rfl
    · rw [valV_neg (p := (Sum.inl p.1, V.int p.2)) (fun z => h1 (by show p.1 ∈ _; rw [show p.1 = n from Sum.inl.inj z]; exact List.mem_map.mpr ⟨_, e, rfl⟩))]
      exact ih h2 e
theorem each_of {us : List Value} {ps : List (Int × Int)} (hl : us.length = ps.length) (h : ∀ (j : Nat) (v : Value) (p : Int × Int), us[j]? = some v → ps[j]? = some p → ∃ t, v = Value.int p.1 t) :
    PySem.W.EachIs (fun (v : Value) (p : Int × Int) => ∃ t, v = Value.int p.1 t) us ps := by
  induction us generalizing ps with
  | nil => cases ps with
    | nil => exact .nil
    | cons => simp at hl
  | cons u r ih => cases ps with
    | nil => simp at hl
    | cons p t => exact .cons (h 0 u p rfl rfl) (ih (by simpa using hl) fun j v q h1 h2 => h (j + 1) v q h1 h2)
theorem each_vals {us : List Value} {ps : List (Int × Int)} (h : PySem.W.EachIs (fun (v : Value) (p : Int × Int) => ∃ t, v = Value.int p.1 t) us ps) : Vals ((ps.map (·.1)).map V.int) us := by
  induction h with
  | nil => exact .nil
  | cons h _ ih => exact .cons h ih
section
variable {X : Cx}
theorem sort_dict_by {pins : List (Addr × Obj)} {σ : L2.St} {H : Hp} {s : Shared} {a fq : Addr} {ps : List (Int × Int)} {Q : VK} (hcalm : X.calm = true) (hu : X.A.units + 64 < cLine) (I : Inv X pins σ H s) (hd : H a = some (.dK (pD ps)))
    (turn : ∀ (v : Value) (p : Int × Int) (t : Tok), v = .int p.1 t → p ∈ ps → ∀ (h : Heap) (tk : Nat), (∀ b o, s.heap.get? b = some o → h.get? b = some o) →
      wpAny (model X.prog X.w) X.A.in1.in1 (call (.ref fq) [v]) (KeyPure (.int p.2) { s with heap := h, toks := tk }) (fun _ _ => False) { s with heap := h, toks := tk })
    (q : ∀ (ys : List (Int × Int)) (p : Addr), ys.Perm ps → ys.Pairwise (fun x y => x.2 ≤ y.2) → H p = none → Q (.ref p) (upd H p (.lst ((ys.map (·.1)).map V.int)))) :
    wpAny (model X.prog X.w) X.A (call (.builtin "sorted") [.ref a] [(Str.ofString "key", .ref fq)]) (EP X pins σ Q) X.xe s := by
  obtain ⟨z, lo, vs, rel, dd⟩ := dk_rd I.hok (Rd.of hd)
  obtain ⟨ep, hat⟩ := dd.dictAt
  have hkl : ps.length ≤ sizeLine := by
    unfold pD at z
    rw [List.length_map] at z
    exact z
  have hkeys : vs.map (·.1) = ps.map fun p => Sum.inl p.1 := by
    rw [← rel.keys]
    unfold pD
    rw [List.map_map]; rfl
  have hl : vs.length = ps.length := by
    have e := congrArg List.length hkeys
    rw [List.length_map, List.length_map] at e
    exact e
  have h16 : vs.length ≤ sizeLine := by rw [hl]; exact hkl
  refine call_function_entry_kw PyProof.Rows.kind_sorted PyProof.Rows.plain_sorted PyProof.Rows.entry_sorted (PyProof.Rows.ksk_s1 _ _) ?_
  unfold Builtin.«sorted»
  refine wpAny_bind (m := checkCount "sorted" 1 1 _) (wpAny_pure ?_)
  refine wpAny_bind (PySem.W.kdu_collect (A := X.A.in1) (PySem.W.kdl_dict (knd := mixKind X.prog X.w) (kvs := vs) (ep := ep) lo) (I.ok.hd hcalm) hat h16 fun h' tk acc hk hacc => ?_)
  have hal : acc.toList.length = ps.length := by rw [Array.length_toList, hacc.1, hl]
  have hE : PySem.W.EachIs (fun (v : Value) (p : Int × Int) => ∃ t, v = Value.int p.1 t) acc.toList ps := each_of hal fun j v p e ep' => by
    obtain ⟨k, x, e1, e2⟩ := hacc.2 j v (by rw [← Array.getElem?_toList]; exact e)
    have e3 : (vs.map (·.1))[j]? = some k := by rw [List.getElem?_map, e1]; rfl
    rw [hkeys, List.getElem?_map, ep'] at e3
    have e5 : Sum.inl p.1 = k := Option.some.inj e3
    subst e5
    rcases keyIs_shape (show keyIs (Sum.inl p.1) v = true from e2) with ⟨i, t, ek, ev⟩ | ⟨z, t, ek, ev⟩
    · cases ek
      exact ⟨t, ev⟩
    · cases ek
  have I1 : Inv X pins σ H { s with heap := h', toks := tk } := I.kept hk
  refine wpAny_bind (wpAny_newList ?_ (by rw [hal]; exact hkl))
  have hoL : (h'.push (seqObj "list" acc.toList.toArray 0)).get? h'.objs.size = some (seqObj "list" acc.toList.toArray 0) := Heap.get?_push_size _ rfl
  show wpAny _ _ _ _ _ { s with heap := h'.push (seqObj "list" acc.toList.toArray 0), toks := tk }
  have nL : ∀ b o, h'.get? b = some o → b ≠ h'.objs.size := fun b o e => Nat.ne_of_lt (Heap.lt_size e)
  refine wpAny_bind (wpAny_holding (PySem.W.list_sort_key_data (A := X.A.in1) (b := false) (s := { s with heap := h'.push (seqObj "list" acc.toList.toArray 0), toks := tk }) (fun p : Int × Int => PyData.int p.2) hoL hE ?_ ?_ hkl ?_ (PyProof.Rows.ksk_l1 _ _) (PyProof.Rows.ksk_t1 _ _) (fun v p hv hp h2 tk2 kb => ?_) fun out c h2 tk2 kb hout hlen hEo => ?_))
  · exact PySem.W.AllAlike.of (enc := fun p : Int × Int => PyData.int p.2) fun _ _ => rfl
  · exact PySem.W.Sortable.others (enc := fun p : Int × Int => PyData.int p.2) fun _ => ⟨(by intro z; cases z), fun xs => (by intro z; cases z)⟩
  · intro p _
    show X.A.units + 1 + 1 + 0 < cLine
    omega
  · obtain ⟨t, rfl⟩ := hv
    exact turn _ p t rfl hp h2 tk2 fun b o e => kb b o (nL b o (hk b o e)) (Heap.get?_push_of_some _ (hk b o e))
  · have hm := hEo
    rw [PySem.W.dataLe_int (fun p : Int × Int => p.2)] at hm
    have pm : (ps.mergeSort fun a b : Int × Int => decide (a.2 ≤ b.2)).Perm ps := List.mergeSort_perm _ _
    have pw : (ps.mergeSort fun a b : Int × Int => decide (a.2 ≤ b.2)).Pairwise (fun x y => x.2 ≤ y.2) := by
      have := List.pairwise_mergeSort (le := fun a b : Int × Int => decide (a.2 ≤ b.2)) (fun a b c h1 h2 => by simp at h1 h2 ⊢; omega) (fun a b => by simp; omega) ps
      exact this.imp fun h => of_decide_eq_true h
    generalize ps.mergeSort (fun a b : Int × Int => decide (a.2 ≤ b.2)) = ys at hm pm pw
    have hvals := each_vals hm
    have hlen2 : ((ys.map (·.1)).map V.int).length ≤ sizeLine := by
      rw [List.length_map, List.length_map, pm.length_eq]
      exact hkl
    refine wpAny_pure ⟨_, rfl, .ref h'.objs.size, upd H h'.objs.size (.lst ((ys.map (·.1)).map V.int)), I1.laid (t' := tk2) (fun b u e => kb b u (nL b u e) (Heap.get?_push_of_some _ e)) (Nat.le_refl _)
      (show ObjOk X.prog X.w _ _ _ (.lst ((ys.map (·.1)).map V.int)) from ⟨hlen2, out, c, hvals, hout⟩), rfl, q _ _ pm pw (I1.hok.fresh (Nat.le_refl _))⟩
def tSKL (T : List (Addr × Str)) (i : Nat) : TE := fun σ H Q => ∃ (a : Addr) (ps : List (Int × Int)), σ[i]? = some (some (.ref a)) ∧ H a = some (.dK (pD ps)) ∧ (ps.map (·.1)).Nodup ∧ Tabs T H ∧
  ∀ H1, ExtN H H1 → Tabs T H1 → ∀ (ys : List (Int × Int)) (q : Addr), ys.Perm ps → ys.Pairwise (fun x y => x.2 ≤ y.2) → H1 q = none → Q (.ref q) (upd H1 q (.lst ((ys.map (·.1)).map V.int)))
theorem pe_sortKeyLam {T : List (Addr × Str)} {c P : Addr} {k i : Nat} {x y : Str} {params : Arguments} {scope : Scope} {p px px2 py spos lpos kpos pos : Pos} (hcalm : X.calm = true) (hr : Room k X.A) (hg : Gl X "sorted") (hm : X.mg "sorted" = none)
    (hN : X.N[i]? = some x) (hvx : X.env.scope.names.lookup x = some .cell) (TB : TabB X.base X.mg c P) (hcode : X.env.code = .ref c) (hmT : (P, X.env.qual ++ "<lambda>") ∈ T) (huT : ∀ p ∈ T, p.1 = P → p.2 = X.env.qual ++ "<lambda>")
    (hdef : defaultsOf params X.env = ([], [])) (hk : scope.kind = .function) (hco : scope.isCoroutine = false) (hge : scope.isGenerator = false) (nocell : ∀ z ∈ scope.names, z.2 ≠ .cell) (hy : scope.names.lookup y = some .local) (hx : scope.names.lookup x = some .free)
    (hfree : ∀ z ∈ scope.names, z.2 = .free → X.env.scope.names.lookup z.1 = some .cell ∨ X.env.scope.names.lookup z.1 = some .free)
    (hbind : ∀ (q : Str) (cl : List (Str × Addr)) (v pm cv ctv : Value), bindArgs (PySem.W.kla_fn "<lambda>" q params (.Subscript (.Name x px2) (.Name y py) spos) scope cl pm cv ctv) ⟨[v], []⟩ = pure [(y, v)])
    (dx : (x == ("__debug__" : Str)) = false) (dy : (y == ("__debug__" : Str)) = false) (cdx : (x == ("__classdict__" : Str)) = false) :
    PE X (.Call (.Name "sorted" p) [.Name x px] [⟨some "key", .Lambda params (.Subscript (.Name x px2) (.Name y py) spos) scope lpos, kpos⟩] pos) (tSKL T i) := by
  refine ⟨fun pins s σ H Q I h => ?_⟩
  obtain ⟨a, ps, hs, hd, nd, hT, q⟩ := h
  have hfr : ∀ z ∈ scope.names, z.2 = .free → ∃ c, X.env.cells.lookup z.1 = some c := fun z hz e => (hfree z hz e).elim (fun q => I.ok.has _ (.inl q)) fun q => I.ok.has _ (.inr q)
  refine wpAny_Call_Name_kw (ld_blt I hg hm bb_sorted ?_)
  refine PyProof.Rows.callWith_kw (id := "sorted") (thn ((pa_cons (pe_var (pos := px) hN (Or.inr (Or.inl hvx)) dx cdx) pa_nil).run pos pins s σ H (fun vs H1 => vs = [.ref a] ∧ H1 = H) I ⟨_, hs, rfl, rfl⟩) fun us s1 hq => ?_)
  obtain ⟨vs, H1, I1, r1, e1, e2⟩ := hq
  subst e1 e2
  obtain ⟨u0, rfl, ru0⟩ := vals1 r1
  obtain rfl : u0 = Value.ref a := ru0
  show wpAny _ _ (evalAll ((do let v ← eval (.Lambda params (.Subscript (.Name x px2) (.Name y py) spos) scope lpos) X.env; standAt pos; pure v) :: [])) _ _ s1
  refine wpAny_evalAll_cons (wpAny_bind (lam_make2 I1 TB hcode hmT huT hT hdef hfr fun f c' pm ctv H2 s2 I2 eN T2 hf hfn hfrm hcO => wpAny_bind (wpAny_standAt (wpAny_pure ?_))))
  refine wpAny_evalAll_nil ?_
  show wpAny _ _ (call (.builtin "sorted") [.ref a] [(Str.ofString "key", .ref f)]) _ _ s2
  have hd2 := eN _ _ hd (by intro ps z; cases z)
  have hu64 : X.A.units + 64 < cLine := by have := hr.un; omega
  refine sort_dict_by hcalm hu64 I2 hd2 (fun v pr t hv hp h tk kb => ?_) (q H2 eN T2)
  subst hv
  have Ih : Inv X pins σ H2 { s2 with heap := h, toks := tk } := I2.kept kb
  obtain ⟨m, hn, hl⟩ := I2.loc
  obtain ⟨u, r, l⟩ := hl i x (.ref a) hN hs (Or.inr (Or.inl hvx))
  obtain rfl : u = Value.ref a := r
  rcases l with ⟨hk', _⟩ | ⟨_, cc, hcc, hcell⟩
  · have hk' : X.env.scope.names.lookup x = some .local := hk'
    rw [hvx] at hk'
    cases hk'
  obtain ⟨z, lo, ws, rel, dd⟩ := dk_rd Ih.hok (Rd.of hd2)
  obtain ⟨w', hw, rw'⟩ := RelO.some_of (v := .int pr.2) (o := valueAt ws (.inl pr.1)) (by have := rel.val (.inl pr.1); rw [pD_val nd (show (pr.1, pr.2) ∈ ps from hp)] at this; exact this)
  obtain ⟨t', rfl⟩ := rw'
  refine look_call (A := X.A.in1.in1) (s := { s2 with heap := h, toks := tk }) (knd := mixKind X.prog X.w) (k := .inl pr.1) (t := t') ?_ (kb _ _ hf) (codeO_at Ih.hok hcO) hk hco hge nocell hy hx (clo_has hfr (PySem.mem_of_lookup hx) hcc) ?_ dd.mapOf ?_ hw Ih.nolimit (fun _ _ _ => hbind _ _ _ _ _ _) dx dy cdx
  · have := hr.dp
    show X.A.depth < _
    omega
  · obtain ⟨o, h1, h2⟩ := hcell
    exact ⟨o, kb _ _ h1, h2⟩
  · exact kV_is (k := .inl pr.1) ⟨t, rfl⟩
end
/-- a def whose code object is known: it makes a lambda -/
structure FunC (K : PySem.W.Frag) (x qual : Str) (st : Stmt) (f : Addr) (fd : FuncData) (c : Addr) : Prop where
  ex : ∃ (oc : Value) (od : Option Addr) (kV doc pm : Value) (an : Option Addr) (ct : Value) (osl : Array (Option Value)),
    fd = PySem.W.fnOf x qual (defArgs st) (defBody st) (defScope st) .none kV doc pm an (.ref c) ct ∧ K.lookup f = some ⟨oc, od, .func fd, osl⟩ ∧ PySem.W.codeIn K (.ref c) qual = true
theorem FunC.ok {P : Program} {w : World} {K : PySem.W.Frag} {mg : Str → Option Value} {base : Heap} {x qual : Str} {st : Stmt} {f c : Addr} {fd : FuncData} {N ps : List Str} {k : Nat} {sp : Sp} (F : FunC K x qual st f fd c) (S : FnScope N ps (defScope st)) (len : ∀ vs H Q E, sp vs H Q E → vs.length = ps.length)
    (hbody : ∀ (A : Around) (outer : List Env) (s : Shared) (H : Hp) (vs : List V) (Q : VK) (E : XK), Room k (A.deeper (envOfC qual (defScope st) s.heap.objs.size f (.ref c))) → sp vs H Q E →
      ∃ t, PSs (cxOf CX0 P w K mg base N qual (defScope st) f (.ref c) A outer s H E).nox (defBody st) t ∧ t { nx := fun _ H' => Q .non H', rt := Q } (L2.start N vs) H) : FnOk P w K mg base CX0 (k + 1) f fd ps sp := by
  obtain ⟨oc, od, kV, doc, pm, an, ct, osl, rfl, lk, hcd⟩ := F.ex
  refine fn_of lk hcd S len fun A outer s H vs Q E hr hsp => ?_
  obtain ⟨t, h, q⟩ := hbody A outer s H vs Q E hr hsp
  exact ⟨t, h.nox, q⟩
end LX
namespace LX
open PySem PySem.Spec PyProof.Rows L2 NdefX
def top (i : Nat) : Stmt := PySem.Challenge.pw_saggar_k64_best_paths.main.body.getD i (.Pass ⟨0, 0, 0, 0⟩)
abbrev s_is_ref : Stmt := top 9
abbrev N_is_ref : List Str := ["word"]
theorem sc_is_ref : FnScope N_is_ref ["word"] (defScope s_is_ref) := ⟨rfl, rfl, rfl, by decide +kernel, rfl, by decide +kernel, by decide +kernel⟩
abbrev s_ref_of : Stmt := top 10
abbrev N_ref_of : List Str := ["word"]
theorem sc_ref_of : FnScope N_ref_of ["word"] (defScope s_ref_of) := ⟨rfl, rfl, rfl, by decide +kernel, rfl, by decide +kernel, by decide +kernel⟩
abbrev s_reached : Stmt := top 12
abbrev N_reached : List Str := ["store", "roots", "found", "waiting", "word", "number"]
theorem sc_reached : FnScope N_reached ["store", "roots"] (defScope s_reached) := ⟨rfl, rfl, rfl, by decide +kernel, rfl, by decide +kernel, by decide +kernel⟩
abbrev s_collect : Stmt := top 13
abbrev N_collect : List Str := ["store", "roots", "found", "gone", "number"]
theorem sc_collect : FnScope N_collect ["store", "roots"] (defScope s_collect) := ⟨rfl, rfl, rfl, by decide +kernel, rfl, by decide +kernel, by decide +kernel⟩
abbrev s_object_of : Stmt := top 16
abbrev N_object_of : List Str := ["space", "word"]
theorem sc_object_of : FnScope N_object_of ["space", "word"] (defScope s_object_of) := ⟨rfl, rfl, rfl, by decide +kernel, rfl, by decide +kernel, by decide +kernel⟩
abbrev s_row_of : Stmt := top 17
abbrev N_row_of : List Str := ["space", "number"]
theorem sc_row_of : FnScope N_row_of ["space", "number"] (defScope s_row_of) := ⟨rfl, rfl, rfl, by decide +kernel, rfl, by decide +kernel, by decide +kernel⟩
abbrev s_word_at : Stmt := top 18
abbrev N_word_at : List Str := ["space", "path", "row", "word", "k", "number"]
theorem sc_word_at : FnScope N_word_at ["space", "path"] (defScope s_word_at) := ⟨rfl, rfl, rfl, by decide +kernel, rfl, by decide +kernel, by decide +kernel⟩
abbrev s_paths : Stmt := top 19
abbrev N_paths : List Str := ["space", "found", "words", "waiting", "k", "later", "path", "word", "number", "row"]
theorem sc_paths : FnScope N_paths ["space"] (defScope s_paths) := ⟨rfl, rfl, rfl, by decide +kernel, rfl, by decide +kernel, by decide +kernel⟩
abbrev s_garbage : Stmt := top 20
abbrev N_garbage : List Str := ["space", "found", "number"]
theorem sc_garbage : FnScope N_garbage ["space"] (defScope s_garbage) := ⟨rfl, rfl, rfl, by decide +kernel, rfl, by decide +kernel, by decide +kernel⟩
abbrev s_Store___init__ : Stmt := inClass (top 23) 0
abbrev N_Store___init__ : List Str := ["self", "room", "entries"]
theorem sc_Store___init__ : FnScope N_Store___init__ ["self", "room", "entries"] (defScope s_Store___init__) := ⟨rfl, rfl, rfl, by decide +kernel, rfl, by decide +kernel, by decide +kernel⟩
abbrev s_Store_exists : Stmt := inClass (top 23) 2
abbrev N_Store_exists : List Str := ["self", "number"]
theorem sc_Store_exists : FnScope N_Store_exists ["self", "number"] (defScope s_Store_exists) := ⟨rfl, rfl, rfl, by decide +kernel, rfl, by decide +kernel, by decide +kernel⟩
abbrev s_Store_numbers : Stmt := inClass (top 23) 3
abbrev N_Store_numbers : List Str := ["self"]
theorem sc_Store_numbers : FnScope N_Store_numbers ["self"] (defScope s_Store_numbers) := ⟨rfl, rfl, rfl, by decide +kernel, rfl, by decide +kernel, by decide +kernel⟩
abbrev s_Store_free_number : Stmt := inClass (top 23) 4
abbrev N_Store_free_number : List Str := ["self"]
theorem sc_Store_free_number : FnScope N_Store_free_number ["self"] (defScope s_Store_free_number) := ⟨rfl, rfl, rfl, by decide +kernel, rfl, by decide +kernel, by decide +kernel⟩
abbrev s_Store_allocate : Stmt := inClass (top 23) 5
abbrev N_Store_allocate : List Str := ["self", "kind", "size", "number"]
theorem sc_Store_allocate : FnScope N_Store_allocate ["self", "kind", "size"] (defScope s_Store_allocate) := ⟨rfl, rfl, rfl, by decide +kernel, rfl, by decide +kernel, by decide +kernel⟩
abbrev s_Store_size : Stmt := inClass (top 23) 6
abbrev N_Store_size : List Str := ["self", "number"]
theorem sc_Store_size : FnScope N_Store_size ["self", "number"] (defScope s_Store_size) := ⟨rfl, rfl, rfl, by decide +kernel, rfl, by decide +kernel, by decide +kernel⟩
abbrev s_Store_kind : Stmt := inClass (top 23) 7
abbrev N_Store_kind : List Str := ["self", "number"]
theorem sc_Store_kind : FnScope N_Store_kind ["self", "number"] (defScope s_Store_kind) := ⟨rfl, rfl, rfl, by decide +kernel, rfl, by decide +kernel, by decide +kernel⟩
abbrev s_Store_put : Stmt := inClass (top 23) 10
abbrev N_Store_put : List Str := ["self", "number", "at", "word"]
theorem sc_Store_put : FnScope N_Store_put ["self", "number", "at", "word"] (defScope s_Store_put) := ⟨rfl, rfl, rfl, by decide +kernel, rfl, by decide +kernel, by decide +kernel⟩
abbrev s_Store_slots : Stmt := inClass (top 23) 11
abbrev N_Store_slots : List Str := ["self", "number", "place"]
theorem sc_Store_slots : FnScope N_Store_slots ["self", "number"] (defScope s_Store_slots) := ⟨rfl, rfl, rfl, by decide +kernel, rfl, by decide +kernel, by decide +kernel⟩
abbrev s_Store_drop : Stmt := inClass (top 23) 12
abbrev N_Store_drop : List Str := ["self", "number"]
theorem sc_Store_drop : FnScope N_Store_drop ["self", "number"] (defScope s_Store_drop) := ⟨rfl, rfl, rfl, by decide +kernel, rfl, by decide +kernel, by decide +kernel⟩
abbrev s_Store_close_up : Stmt := inClass (top 23) 13
abbrev N_Store_close_up : List Str := ["self", "words", "places", "old", "number", "place"]
theorem sc_Store_close_up : FnScope N_Store_close_up ["self"] (defScope s_Store_close_up) := ⟨rfl, rfl, rfl, by decide +kernel, rfl, by decide +kernel, by decide +kernel⟩
abbrev s_Store_exchange : Stmt := inClass (top 23) 16
abbrev N_Store_exchange : List Str := ["self", "first", "second"]
theorem sc_Store_exchange : FnScope N_Store_exchange ["self", "first", "second"] (defScope s_Store_exchange) := ⟨rfl, rfl, rfl, by decide +kernel, rfl, by decide +kernel, by decide +kernel⟩
abbrev s_Space___init__ : Stmt := inClass (top 26) 0
abbrev N_Space___init__ : List Str := ["self", "room", "entries"]
theorem sc_Space___init__ : FnScope N_Space___init__ ["self", "room", "entries"] (defScope s_Space___init__) := ⟨rfl, rfl, rfl, by decide +kernel, rfl, by decide +kernel, by decide +kernel⟩
abbrev s_Space_set_root : Stmt := inClass (top 26) 3
abbrev N_Space_set_root : List Str := ["self", "k", "word"]
theorem sc_Space_set_root : FnScope N_Space_set_root ["self", "k", "word"] (defScope s_Space_set_root) := ⟨rfl, rfl, rfl, by decide +kernel, rfl, by decide +kernel, by decide +kernel⟩
abbrev s_Space_hold : Stmt := inClass (top 26) 4
abbrev N_Space_hold : List Str := ["self", "word"]
theorem sc_Space_hold : FnScope N_Space_hold ["self", "word"] (defScope s_Space_hold) := ⟨rfl, rfl, rfl, by decide +kernel, rfl, by decide +kernel, by decide +kernel⟩
abbrev s_Space_all_roots : Stmt := inClass (top 26) 7
abbrev N_Space_all_roots : List Str := ["self"]
theorem sc_Space_all_roots : FnScope N_Space_all_roots ["self"] (defScope s_Space_all_roots) := ⟨rfl, rfl, rfl, by decide +kernel, rfl, by decide +kernel, by decide +kernel⟩
abbrev s_Space_collect : Stmt := inClass (top 26) 8
abbrev N_Space_collect : List Str := ["self"]
theorem sc_Space_collect : FnScope N_Space_collect ["self"] (defScope s_Space_collect) := ⟨rfl, rfl, rfl, by decide +kernel, rfl, by decide +kernel, by decide +kernel⟩
abbrev s_Space_collect_with : Stmt := inClass (top 26) 9
abbrev N_Space_collect_with : List Str := ["self", "word"]
theorem sc_Space_collect_with : FnScope N_Space_collect_with ["self", "word"] (defScope s_Space_collect_with) := ⟨rfl, rfl, rfl, by decide +kernel, rfl, by decide +kernel, by decide +kernel⟩
abbrev s_Space_new : Stmt := inClass (top 26) 11
abbrev N_Space_new : List Str := ["self", "kind", "size"]
theorem sc_Space_new : FnScope N_Space_new ["self", "kind", "size"] (defScope s_Space_new) := ⟨rfl, rfl, rfl, by decide +kernel, rfl, by decide +kernel, by decide +kernel⟩
abbrev s_Space_fitted : Stmt := inClass (top 26) 12
abbrev N_Space_fitted : List Str := ["self", "kind", "size"]
theorem sc_Space_fitted : FnScope N_Space_fitted ["self", "kind", "size"] (defScope s_Space_fitted) := ⟨rfl, rfl, rfl, by decide +kernel, rfl, by decide +kernel, by decide +kernel⟩
abbrev s__law_number : Stmt := top 28
abbrev N__law_number : List Str := ["_law_cell", "_law_k", "_law_mixed"]
theorem sc__law_number : FnScope N__law_number ["_law_cell", "_law_k"] (defScope s__law_number) := ⟨rfl, rfl, rfl, by decide +kernel, rfl, by decide +kernel, by decide +kernel⟩
abbrev s__law_word : Stmt := top 29
abbrev N__law_word : List Str := ["_law_x", "_law_many", "_law_rest"]
theorem sc__law_word : FnScope N__law_word ["_law_x", "_law_many"] (defScope s__law_word) := ⟨rfl, rfl, rfl, by decide +kernel, rfl, by decide +kernel, by decide +kernel⟩
abbrev s__law_is : Stmt := top 30
abbrev N__law_is : List Str := ["_law_actual", "_law_due"]
theorem sc__law_is : FnScope N__law_is ["_law_actual", "_law_due"] (defScope s__law_is) := ⟨rfl, rfl, rfl, by decide +kernel, rfl, by decide +kernel, by decide +kernel⟩
abbrev s__law_same : Stmt := top 31
abbrev N__law_same : List Str := ["_law_actual", "_law_due", "_law_k"]
theorem sc__law_same : FnScope N__law_same ["_law_actual", "_law_due"] (defScope s__law_same) := ⟨rfl, rfl, rfl, by decide +kernel, rfl, by decide +kernel, by decide +kernel⟩
abbrev s__law_sizes : Stmt := top 32
abbrev N__law_sizes : List Str := ["_law_x", "_law_count", "_law_rest", "_law_sizes_here", "_law_k", "_law_y"]
theorem sc__law_sizes : FnScope N__law_sizes ["_law_x"] (defScope s__law_sizes) := ⟨rfl, rfl, rfl, by decide +kernel, rfl, by decide +kernel, by decide +kernel⟩
abbrev s__law_rows : Stmt := top 33
abbrev N__law_rows : List Str := ["_law_sizes_here", "_law_x", "_law_rows_here", "_law_rest", "_law_k", "_law_y", "_law_row", "_law_at"]
theorem sc__law_rows : FnScope N__law_rows ["_law_sizes_here", "_law_x"] (defScope s__law_rows) := ⟨rfl, rfl, rfl, by decide +kernel, rfl, by decide +kernel, by decide +kernel⟩
abbrev s__law_roots : Stmt := top 34
abbrev N__law_roots : List Str := ["_law_many", "_law_x", "_law_words", "_law_rest", "_law_k", "_law_y"]
theorem sc__law_roots : FnScope N__law_roots ["_law_many", "_law_x"] (defScope s__law_roots) := ⟨rfl, rfl, rfl, by decide +kernel, rfl, by decide +kernel, by decide +kernel⟩
abbrev s__law_space : Stmt := top 35
abbrev N__law_space : List Str := ["_law_rows_here", "_law_words", "_law_space_here", "_law_k", "_law_at"]
theorem sc__law_space : FnScope N__law_space ["_law_rows_here", "_law_words"] (defScope s__law_space) := ⟨rfl, rfl, rfl, by decide +kernel, rfl, by decide +kernel, by decide +kernel⟩
abbrev s__law_walk : Stmt := top 36
abbrev N__law_walk : List Str := ["_law_rows_here", "_law_words", "_law_path", "_law_row", "_law_word_here", "_law_k"]
theorem sc__law_walk : FnScope N__law_walk ["_law_rows_here", "_law_words", "_law_path"] (defScope s__law_walk) := ⟨rfl, rfl, rfl, by decide +kernel, rfl, by decide +kernel, by decide +kernel⟩
abbrev s__law_extended : Stmt := top 37
abbrev N__law_extended : List Str := ["_law_rows_here", "_law_found", "_law_paths_here", "_law_later", "_law_number_here", "_law_step"]
theorem sc__law_extended : FnScope N__law_extended ["_law_rows_here", "_law_found", "_law_paths_here"] (defScope s__law_extended) := ⟨rfl, rfl, rfl, by decide +kernel, rfl, by decide +kernel, by decide +kernel⟩
abbrev s__law_best : Stmt := top 38
abbrev N__law_best : List Str := ["_law_rows_here", "_law_words", "_law_found", "_law_row", "_law_waiting", "_law_k", "_law_length", "_law_pair", "_law_number_here"]
theorem sc__law_best : FnScope N__law_best ["_law_rows_here", "_law_words"] (defScope s__law_best) := ⟨rfl, rfl, rfl, by decide +kernel, rfl, by decide +kernel, by decide +kernel⟩
abbrev s__law_path_is : Stmt := top 39
abbrev N__law_path_is : List Str := ["_law_told_here", "_law_due", "_law_k"]
theorem sc__law_path_is : FnScope N__law_path_is ["_law_told_here", "_law_due"] (defScope s__law_path_is) := ⟨rfl, rfl, rfl, by decide +kernel, rfl, by decide +kernel, by decide +kernel⟩
abbrev s__law_told : Stmt := top 40
abbrev N__law_told : List Str := ["_law_space_here", "_law_rows_here", "_law_words", "_law_path", "_law_due", "_law_told_here"]
theorem sc__law_told : FnScope N__law_told ["_law_space_here", "_law_rows_here", "_law_words", "_law_path"] (defScope s__law_told) := ⟨rfl, rfl, rfl, by decide +kernel, rfl, by decide +kernel, by decide +kernel⟩
abbrev s__law_drawn : Stmt := top 41
abbrev N__law_drawn : List Str := ["_law_x", "_law_rows_here", "_law_words", "_law_path", "_law_row", "_law_rest", "_law_k", "_law_step", "_law_word_here"]
theorem sc__law_drawn : FnScope N__law_drawn ["_law_x", "_law_rows_here", "_law_words"] (defScope s__law_drawn) := ⟨rfl, rfl, rfl, by decide +kernel, rfl, by decide +kernel, by decide +kernel⟩
abbrev s__law_kept : Stmt := top 42
abbrev N__law_kept : List Str := ["_law_space_here", "_law_rows_here", "_law_words", "_law_k", "_law_numbers"]
theorem sc__law_kept : FnScope N__law_kept ["_law_space_here", "_law_rows_here", "_law_words"] (defScope s__law_kept) := ⟨rfl, rfl, rfl, by decide +kernel, rfl, by decide +kernel, by decide +kernel⟩
abbrev s_law : Stmt := top 43
abbrev N_law : List Str := ["_law_script", "_law_cells", "_law_cell", "_law_rows_here", "_law_words", "_law_space_here", "_law_due", "_law_told_here", "_law_number_here", "_law_k", "_law_x"]
theorem sc_law : FnScope N_law ["_law_script"] (defScope s_law) := ⟨rfl, rfl, rfl, by decide +kernel, rfl, by decide +kernel, by decide +kernel⟩
structure Wd (P : Program) (K : PySem.W.Frag) (mg : Str → Option Value) where
  n_bool : mg "bool" = none
  n_dict : mg "dict" = none
  n_int : mg "int" = none
  n_isinstance : mg "isinstance" = none
  n_len : mg "len" = none
  n_list : mg "list" = none
  n_min : mg "min" = none
  n_range : mg "range" = none
  n_sorted : mg "sorted" = none
  n_tuple : mg "tuple" = none
  t_NIL : Tok
  g_NIL : mg "NIL" = some (.int (0) t_NIL)
  t_HEADER : Tok
  g_HEADER : mg "HEADER" = some (.int (3) t_HEADER)
  t_ROOTS : Tok
  g_ROOTS : mg "ROOTS" = some (.int (16) t_ROOTS)
  c_Store : Addr
  g_Store : mg "Store" = some (.ref c_Store)
  C_Store : Cls K c_Store
  na_Store_room : NoAttr K c_Store "room"
  na_Store_entries : NoAttr K c_Store "entries"
  na_Store_words : NoAttr K c_Store "words"
  na_Store__places : NoAttr K c_Store "_places"
  na_Store__least : NoAttr K c_Store "_least"
  c_Space : Addr
  g_Space : mg "Space" = some (.ref c_Space)
  C_Space : Cls K c_Space
  na_Space_store : NoAttr K c_Space "store"
  na_Space_pressure : NoAttr K c_Space "pressure"
  na_Space_always : NoAttr K c_Space "always"
  na_Space_allocations : NoAttr K c_Space "allocations"
  na_Space_collections : NoAttr K c_Space "collections"
  na_Space__roots : NoAttr K c_Space "_roots"
  na_Space__held : NoAttr K c_Space "_held"
  na_Space__saved : NoAttr K c_Space "_saved"
  f_is_ref : Addr
  fd_is_ref : FuncData
  F_is_ref : Fun K "is_ref" "is_ref" s_is_ref f_is_ref fd_is_ref
  g_is_ref : mg "is_ref" = some (.ref f_is_ref)
  b_is_ref : Binds K fd_is_ref ["word"] []
  f_ref_of : Addr
  fd_ref_of : FuncData
  F_ref_of : Fun K "ref_of" "ref_of" s_ref_of f_ref_of fd_ref_of
  g_ref_of : mg "ref_of" = some (.ref f_ref_of)
  b_ref_of : Binds K fd_ref_of ["word"] []
  f_reached : Addr
  fd_reached : FuncData
  F_reached : Fun K "reached" "reached" s_reached f_reached fd_reached
  g_reached : mg "reached" = some (.ref f_reached)
  b_reached : Binds K fd_reached ["store", "roots"] []
  f_collect : Addr
  fd_collect : FuncData
  F_collect : Fun K "collect" "collect" s_collect f_collect fd_collect
  g_collect : mg "collect" = some (.ref f_collect)
  b_collect : Binds K fd_collect ["store", "roots"] []
  f_object_of : Addr
  fd_object_of : FuncData
  F_object_of : Fun K "object_of" "object_of" s_object_of f_object_of fd_object_of
  g_object_of : mg "object_of" = some (.ref f_object_of)
  b_object_of : Binds K fd_object_of ["space", "word"] []
  f_row_of : Addr
  fd_row_of : FuncData
  F_row_of : Fun K "row_of" "row_of" s_row_of f_row_of fd_row_of
  g_row_of : mg "row_of" = some (.ref f_row_of)
  b_row_of : Binds K fd_row_of ["space", "number"] []
  f_word_at : Addr
  fd_word_at : FuncData
  F_word_at : Fun K "word_at" "word_at" s_word_at f_word_at fd_word_at
  g_word_at : mg "word_at" = some (.ref f_word_at)
  b_word_at : Binds K fd_word_at ["space", "path"] []
  f_paths : Addr
  fd_paths : FuncData
  F_paths : Fun K "paths" "paths" s_paths f_paths fd_paths
  g_paths : mg "paths" = some (.ref f_paths)
  b_paths : Binds K fd_paths ["space"] []
  f_garbage : Addr
  fd_garbage : FuncData
  F_garbage : Fun K "garbage" "garbage" s_garbage f_garbage fd_garbage
  g_garbage : mg "garbage" = some (.ref f_garbage)
  b_garbage : Binds K fd_garbage ["space"] []
  f_Store___init__ : Addr
  fd_Store___init__ : FuncData
  F_Store___init__ : Fun K "__init__" "Store.__init__" s_Store___init__ f_Store___init__ fd_Store___init__
  M_Store : Mk K c_Store f_Store___init__
  b_Store___init__ : Binds K fd_Store___init__ ["self", "room", "entries"] []
  f_Store_exists : Addr
  fd_Store_exists : FuncData
  F_Store_exists : Fun K "exists" "Store.exists" s_Store_exists f_Store_exists fd_Store_exists
  m_Store_exists : Meth K c_Store "exists" f_Store_exists
  b_Store_exists : Binds K fd_Store_exists ["self", "number"] []
  f_Store_numbers : Addr
  fd_Store_numbers : FuncData
  F_Store_numbers : Fun K "numbers" "Store.numbers" s_Store_numbers f_Store_numbers fd_Store_numbers
  m_Store_numbers : Meth K c_Store "numbers" f_Store_numbers
  b_Store_numbers : Binds K fd_Store_numbers ["self"] []
  f_Store_free_number : Addr
  fd_Store_free_number : FuncData
  F_Store_free_number : Fun K "free_number" "Store.free_number" s_Store_free_number f_Store_free_number fd_Store_free_number
  m_Store_free_number : Meth K c_Store "free_number" f_Store_free_number
  b_Store_free_number : Binds K fd_Store_free_number ["self"] []
  f_Store_allocate : Addr
  fd_Store_allocate : FuncData
  F_Store_allocate : Fun K "allocate" "Store.allocate" s_Store_allocate f_Store_allocate fd_Store_allocate
  m_Store_allocate : Meth K c_Store "allocate" f_Store_allocate
  b_Store_allocate : Binds K fd_Store_allocate ["self", "kind", "size"] []
  f_Store_size : Addr
  fd_Store_size : FuncData
  F_Store_size : Fun K "size" "Store.size" s_Store_size f_Store_size fd_Store_size
  m_Store_size : Meth K c_Store "size" f_Store_size
  b_Store_size : Binds K fd_Store_size ["self", "number"] []
  f_Store_kind : Addr
  fd_Store_kind : FuncData
  F_Store_kind : Fun K "kind" "Store.kind" s_Store_kind f_Store_kind fd_Store_kind
  m_Store_kind : Meth K c_Store "kind" f_Store_kind
  b_Store_kind : Binds K fd_Store_kind ["self", "number"] []
  f_Store_put : Addr
  fd_Store_put : FuncData
  F_Store_put : Fun K "put" "Store.put" s_Store_put f_Store_put fd_Store_put
  m_Store_put : Meth K c_Store "put" f_Store_put
  b_Store_put : Binds K fd_Store_put ["self", "number", "at", "word"] []
  f_Store_slots : Addr
  fd_Store_slots : FuncData
  F_Store_slots : Fun K "slots" "Store.slots" s_Store_slots f_Store_slots fd_Store_slots
  m_Store_slots : Meth K c_Store "slots" f_Store_slots
  b_Store_slots : Binds K fd_Store_slots ["self", "number"] []
  f_Store_drop : Addr
  fd_Store_drop : FuncData
  F_Store_drop : Fun K "drop" "Store.drop" s_Store_drop f_Store_drop fd_Store_drop
  m_Store_drop : Meth K c_Store "drop" f_Store_drop
  b_Store_drop : Binds K fd_Store_drop ["self", "number"] []
  f_Store_close_up : Addr
  fd_Store_close_up : FuncData
  cA_Store_close_up : Addr
  PT_Store_close_up : Addr
  hd_Store_close_up : PySem.W.codeHdIn K cA_Store_close_up PT_Store_close_up = true
  np_Store_close_up : K.lookup PT_Store_close_up = none
  G_Store_close_up : FunC K "close_up" "Store.close_up" s_Store_close_up f_Store_close_up fd_Store_close_up cA_Store_close_up
  F_Store_close_up : Fun K "close_up" "Store.close_up" s_Store_close_up f_Store_close_up fd_Store_close_up
  m_Store_close_up : Meth K c_Store "close_up" f_Store_close_up
  b_Store_close_up : Binds K fd_Store_close_up ["self"] []
  f_Store_exchange : Addr
  fd_Store_exchange : FuncData
  F_Store_exchange : Fun K "exchange" "Store.exchange" s_Store_exchange f_Store_exchange fd_Store_exchange
  m_Store_exchange : Meth K c_Store "exchange" f_Store_exchange
  b_Store_exchange : Binds K fd_Store_exchange ["self", "first", "second"] []
  f_Space___init__ : Addr
  fd_Space___init__ : FuncData
  F_Space___init__ : Fun K "__init__" "Space.__init__" s_Space___init__ f_Space___init__ fd_Space___init__
  M_Space : Mk K c_Space f_Space___init__
  b_Space___init__ : Binds K fd_Space___init__ ["self", "room", "entries"] []
  f_Space_set_root : Addr
  fd_Space_set_root : FuncData
  F_Space_set_root : Fun K "set_root" "Space.set_root" s_Space_set_root f_Space_set_root fd_Space_set_root
  m_Space_set_root : Meth K c_Space "set_root" f_Space_set_root
  b_Space_set_root : Binds K fd_Space_set_root ["self", "k", "word"] []
  f_Space_hold : Addr
  fd_Space_hold : FuncData
  F_Space_hold : Fun K "hold" "Space.hold" s_Space_hold f_Space_hold fd_Space_hold
  m_Space_hold : Meth K c_Space "hold" f_Space_hold
  b_Space_hold : Binds K fd_Space_hold ["self", "word"] []
  f_Space_all_roots : Addr
  fd_Space_all_roots : FuncData
  F_Space_all_roots : Fun K "all_roots" "Space.all_roots" s_Space_all_roots f_Space_all_roots fd_Space_all_roots
  m_Space_all_roots : Meth K c_Space "all_roots" f_Space_all_roots
  b_Space_all_roots : Binds K fd_Space_all_roots ["self"] []
  f_Space_collect : Addr
  fd_Space_collect : FuncData
  F_Space_collect : Fun K "collect" "Space.collect" s_Space_collect f_Space_collect fd_Space_collect
  m_Space_collect : Meth K c_Space "collect" f_Space_collect
  b_Space_collect : Binds K fd_Space_collect ["self"] []
  f_Space_collect_with : Addr
  fd_Space_collect_with : FuncData
  F_Space_collect_with : Fun K "collect_with" "Space.collect_with" s_Space_collect_with f_Space_collect_with fd_Space_collect_with
  m_Space_collect_with : Meth K c_Space "collect_with" f_Space_collect_with
  b_Space_collect_with : Binds K fd_Space_collect_with ["self", "word"] []
  f_Space_new : Addr
  fd_Space_new : FuncData
  F_Space_new : Fun K "new" "Space.new" s_Space_new f_Space_new fd_Space_new
  m_Space_new : Meth K c_Space "new" f_Space_new
  b_Space_new : Binds K fd_Space_new ["self", "kind", "size"] []
  f_Space_fitted : Addr
  fd_Space_fitted : FuncData
  F_Space_fitted : Fun K "fitted" "Space.fitted" s_Space_fitted f_Space_fitted fd_Space_fitted
  m_Space_fitted : Meth K c_Space "fitted" f_Space_fitted
  b_Space_fitted : Binds K fd_Space_fitted ["self", "kind", "size"] []
  f__law_number : Addr
  fd__law_number : FuncData
  F__law_number : Fun K "_law_number" "_law_number" s__law_number f__law_number fd__law_number
  g__law_number : mg "_law_number" = some (.ref f__law_number)
  b__law_number : Binds K fd__law_number ["_law_cell", "_law_k"] []
  f__law_word : Addr
  fd__law_word : FuncData
  F__law_word : Fun K "_law_word" "_law_word" s__law_word f__law_word fd__law_word
  g__law_word : mg "_law_word" = some (.ref f__law_word)
  b__law_word : Binds K fd__law_word ["_law_x", "_law_many"] []
  f__law_is : Addr
  fd__law_is : FuncData
  F__law_is : Fun K "_law_is" "_law_is" s__law_is f__law_is fd__law_is
  g__law_is : mg "_law_is" = some (.ref f__law_is)
  b__law_is : Binds K fd__law_is ["_law_actual", "_law_due"] []
  f__law_same : Addr
  fd__law_same : FuncData
  F__law_same : Fun K "_law_same" "_law_same" s__law_same f__law_same fd__law_same
  g__law_same : mg "_law_same" = some (.ref f__law_same)
  b__law_same : Binds K fd__law_same ["_law_actual", "_law_due"] []
  f__law_sizes : Addr
  fd__law_sizes : FuncData
  F__law_sizes : Fun K "_law_sizes" "_law_sizes" s__law_sizes f__law_sizes fd__law_sizes
  g__law_sizes : mg "_law_sizes" = some (.ref f__law_sizes)
  b__law_sizes : Binds K fd__law_sizes ["_law_x"] []
  f__law_rows : Addr
  fd__law_rows : FuncData
  F__law_rows : Fun K "_law_rows" "_law_rows" s__law_rows f__law_rows fd__law_rows
  g__law_rows : mg "_law_rows" = some (.ref f__law_rows)
  b__law_rows : Binds K fd__law_rows ["_law_sizes_here", "_law_x"] []
  f__law_roots : Addr
  fd__law_roots : FuncData
  F__law_roots : Fun K "_law_roots" "_law_roots" s__law_roots f__law_roots fd__law_roots
  g__law_roots : mg "_law_roots" = some (.ref f__law_roots)
  b__law_roots : Binds K fd__law_roots ["_law_many", "_law_x"] []
  f__law_space : Addr
  fd__law_space : FuncData
  F__law_space : Fun K "_law_space" "_law_space" s__law_space f__law_space fd__law_space
  g__law_space : mg "_law_space" = some (.ref f__law_space)
  b__law_space : Binds K fd__law_space ["_law_rows_here", "_law_words"] []
  f__law_walk : Addr
  fd__law_walk : FuncData
  F__law_walk : Fun K "_law_walk" "_law_walk" s__law_walk f__law_walk fd__law_walk
  g__law_walk : mg "_law_walk" = some (.ref f__law_walk)
  b__law_walk : Binds K fd__law_walk ["_law_rows_here", "_law_words", "_law_path"] []
  f__law_extended : Addr
  fd__law_extended : FuncData
  F__law_extended : Fun K "_law_extended" "_law_extended" s__law_extended f__law_extended fd__law_extended
  g__law_extended : mg "_law_extended" = some (.ref f__law_extended)
  b__law_extended : Binds K fd__law_extended ["_law_rows_here", "_law_found", "_law_paths_here"] []
  f__law_best : Addr
  fd__law_best : FuncData
  F__law_best : Fun K "_law_best" "_law_best" s__law_best f__law_best fd__law_best
  g__law_best : mg "_law_best" = some (.ref f__law_best)
  b__law_best : Binds K fd__law_best ["_law_rows_here", "_law_words"] []
  f__law_path_is : Addr
  fd__law_path_is : FuncData
  F__law_path_is : Fun K "_law_path_is" "_law_path_is" s__law_path_is f__law_path_is fd__law_path_is
  g__law_path_is : mg "_law_path_is" = some (.ref f__law_path_is)
  b__law_path_is : Binds K fd__law_path_is ["_law_told_here", "_law_due"] []
  f__law_told : Addr
  fd__law_told : FuncData
  F__law_told : Fun K "_law_told" "_law_told" s__law_told f__law_told fd__law_told
  g__law_told : mg "_law_told" = some (.ref f__law_told)
  b__law_told : Binds K fd__law_told ["_law_space_here", "_law_rows_here", "_law_words", "_law_path"] []
  f__law_drawn : Addr
  fd__law_drawn : FuncData
  F__law_drawn : Fun K "_law_drawn" "_law_drawn" s__law_drawn f__law_drawn fd__law_drawn
  g__law_drawn : mg "_law_drawn" = some (.ref f__law_drawn)
  b__law_drawn : Binds K fd__law_drawn ["_law_x", "_law_rows_here", "_law_words"] []
  f__law_kept : Addr
  fd__law_kept : FuncData
  F__law_kept : Fun K "_law_kept" "_law_kept" s__law_kept f__law_kept fd__law_kept
  g__law_kept : mg "_law_kept" = some (.ref f__law_kept)
  b__law_kept : Binds K fd__law_kept ["_law_space_here", "_law_rows_here", "_law_words"] []
  f_law : Addr
  fd_law : FuncData
  F_law : Fun K "law" "law" s_law f_law fd_law
  g_law : mg "law" = some (.ref f_law)
  b_law : Binds K fd_law ["_law_script"] []
  g_collect_collecting : mg "collect_collecting" = some (.ref f_collect)
def mkW {l : PySem.W.OpenLaw} {K : PySem.W.Frag} {h : Heap} {mg : Str → Option Value} (X : K.In h) (G : h.Ns mainGlobals mg)
    {t_NIL : Tok}
    {t_HEADER : Tok}
    {t_ROOTS : Tok}
    {C_Store : Addr}
    {C_Space : Addr}
    {ocis_ref kVis_ref dcis_ref pmis_ref cdis_ref ctis_ref : Value} {odis_ref anis_ref : Option Addr} {slis_ref : Array (Option Value)} {fis_ref : Addr}
    {ocref_of kVref_of dcref_of pmref_of cdref_of ctref_of : Value} {odref_of anref_of : Option Addr} {slref_of : Array (Option Value)} {fref_of : Addr}
    {ocreached kVreached dcreached pmreached cdreached ctreached : Value} {odreached anreached : Option Addr} {slreached : Array (Option Value)} {freached : Addr}
    {occollect kVcollect dccollect pmcollect cdcollect ctcollect : Value} {odcollect ancollect : Option Addr} {slcollect : Array (Option Value)} {fcollect : Addr}
    {ocobject_of kVobject_of dcobject_of pmobject_of cdobject_of ctobject_of : Value} {odobject_of anobject_of : Option Addr} {slobject_of : Array (Option Value)} {fobject_of : Addr}
    {ocrow_of kVrow_of dcrow_of pmrow_of cdrow_of ctrow_of : Value} {odrow_of anrow_of : Option Addr} {slrow_of : Array (Option Value)} {frow_of : Addr}
    {ocword_at kVword_at dcword_at pmword_at cdword_at ctword_at : Value} {odword_at anword_at : Option Addr} {slword_at : Array (Option Value)} {fword_at : Addr}
    {ocpaths kVpaths dcpaths pmpaths cdpaths ctpaths : Value} {odpaths anpaths : Option Addr} {slpaths : Array (Option Value)} {fpaths : Addr}
    {ocgarbage kVgarbage dcgarbage pmgarbage cdgarbage ctgarbage : Value} {odgarbage angarbage : Option Addr} {slgarbage : Array (Option Value)} {fgarbage : Addr}
    {ocStore___init__ kVStore___init__ dcStore___init__ pmStore___init__ cdStore___init__ ctStore___init__ : Value} {odStore___init__ anStore___init__ : Option Addr} {slStore___init__ : Array (Option Value)} {fStore___init__ : Addr}
    {ocStore_exists kVStore_exists dcStore_exists pmStore_exists cdStore_exists ctStore_exists : Value} {odStore_exists anStore_exists : Option Addr} {slStore_exists : Array (Option Value)} {fStore_exists : Addr}
    {ocStore_numbers kVStore_numbers dcStore_numbers pmStore_numbers cdStore_numbers ctStore_numbers : Value} {odStore_numbers anStore_numbers : Option Addr} {slStore_numbers : Array (Option Value)} {fStore_numbers : Addr}
    {ocStore_free_number kVStore_free_number dcStore_free_number pmStore_free_number cdStore_free_number ctStore_free_number : Value} {odStore_free_number anStore_free_number : Option Addr} {slStore_free_number : Array (Option Value)} {fStore_free_number : Addr}
    {ocStore_allocate kVStore_allocate dcStore_allocate pmStore_allocate cdStore_allocate ctStore_allocate : Value} {odStore_allocate anStore_allocate : Option Addr} {slStore_allocate : Array (Option Value)} {fStore_allocate : Addr}
    {ocStore_size kVStore_size dcStore_size pmStore_size cdStore_size ctStore_size : Value} {odStore_size anStore_size : Option Addr} {slStore_size : Array (Option Value)} {fStore_size : Addr}
    {ocStore_kind kVStore_kind dcStore_kind pmStore_kind cdStore_kind ctStore_kind : Value} {odStore_kind anStore_kind : Option Addr} {slStore_kind : Array (Option Value)} {fStore_kind : Addr}
    {ocStore_put kVStore_put dcStore_put pmStore_put cdStore_put ctStore_put : Value} {odStore_put anStore_put : Option Addr} {slStore_put : Array (Option Value)} {fStore_put : Addr}
    {ocStore_slots kVStore_slots dcStore_slots pmStore_slots cdStore_slots ctStore_slots : Value} {odStore_slots anStore_slots : Option Addr} {slStore_slots : Array (Option Value)} {fStore_slots : Addr}
    {ocStore_drop kVStore_drop dcStore_drop pmStore_drop cdStore_drop ctStore_drop : Value} {odStore_drop anStore_drop : Option Addr} {slStore_drop : Array (Option Value)} {fStore_drop : Addr}
    {ocStore_close_up kVStore_close_up dcStore_close_up pmStore_close_up cdStore_close_up ctStore_close_up : Value} {odStore_close_up anStore_close_up : Option Addr} {slStore_close_up : Array (Option Value)} {fStore_close_up : Addr}
    {cAStore_close_up PTStore_close_up : Addr} {cclStore_close_up : Value} {cddStore_close_up : Option Addr} {vsStore_close_up : Array Value} {ccsStore_close_up : Array (Option Value)}
    {ocStore_exchange kVStore_exchange dcStore_exchange pmStore_exchange cdStore_exchange ctStore_exchange : Value} {odStore_exchange anStore_exchange : Option Addr} {slStore_exchange : Array (Option Value)} {fStore_exchange : Addr}
    {ocSpace___init__ kVSpace___init__ dcSpace___init__ pmSpace___init__ cdSpace___init__ ctSpace___init__ : Value} {odSpace___init__ anSpace___init__ : Option Addr} {slSpace___init__ : Array (Option Value)} {fSpace___init__ : Addr}
    {ocSpace_set_root kVSpace_set_root dcSpace_set_root pmSpace_set_root cdSpace_set_root ctSpace_set_root : Value} {odSpace_set_root anSpace_set_root : Option Addr} {slSpace_set_root : Array (Option Value)} {fSpace_set_root : Addr}
    {ocSpace_hold kVSpace_hold dcSpace_hold pmSpace_hold cdSpace_hold ctSpace_hold : Value} {odSpace_hold anSpace_hold : Option Addr} {slSpace_hold : Array (Option Value)} {fSpace_hold : Addr}
    {ocSpace_all_roots kVSpace_all_roots dcSpace_all_roots pmSpace_all_roots cdSpace_all_roots ctSpace_all_roots : Value} {odSpace_all_roots anSpace_all_roots : Option Addr} {slSpace_all_roots : Array (Option Value)} {fSpace_all_roots : Addr}
    {ocSpace_collect kVSpace_collect dcSpace_collect pmSpace_collect cdSpace_collect ctSpace_collect : Value} {odSpace_collect anSpace_collect : Option Addr} {slSpace_collect : Array (Option Value)} {fSpace_collect : Addr}
    {ocSpace_collect_with kVSpace_collect_with dcSpace_collect_with pmSpace_collect_with cdSpace_collect_with ctSpace_collect_with : Value} {odSpace_collect_with anSpace_collect_with : Option Addr} {slSpace_collect_with : Array (Option Value)} {fSpace_collect_with : Addr}
    {ocSpace_new kVSpace_new dcSpace_new pmSpace_new cdSpace_new ctSpace_new : Value} {odSpace_new anSpace_new : Option Addr} {slSpace_new : Array (Option Value)} {fSpace_new : Addr}
    {ocSpace_fitted kVSpace_fitted dcSpace_fitted pmSpace_fitted cdSpace_fitted ctSpace_fitted : Value} {odSpace_fitted anSpace_fitted : Option Addr} {slSpace_fitted : Array (Option Value)} {fSpace_fitted : Addr}
    {oc_law_number kV_law_number dc_law_number pm_law_number cd_law_number ct_law_number : Value} {od_law_number an_law_number : Option Addr} {sl_law_number : Array (Option Value)} {f_law_number : Addr}
    {oc_law_word kV_law_word dc_law_word pm_law_word cd_law_word ct_law_word : Value} {od_law_word an_law_word : Option Addr} {sl_law_word : Array (Option Value)} {f_law_word : Addr}
    {oc_law_is kV_law_is dc_law_is pm_law_is cd_law_is ct_law_is : Value} {od_law_is an_law_is : Option Addr} {sl_law_is : Array (Option Value)} {f_law_is : Addr}
    {oc_law_same kV_law_same dc_law_same pm_law_same cd_law_same ct_law_same : Value} {od_law_same an_law_same : Option Addr} {sl_law_same : Array (Option Value)} {f_law_same : Addr}
    {oc_law_sizes kV_law_sizes dc_law_sizes pm_law_sizes cd_law_sizes ct_law_sizes : Value} {od_law_sizes an_law_sizes : Option Addr} {sl_law_sizes : Array (Option Value)} {f_law_sizes : Addr}
    {oc_law_rows kV_law_rows dc_law_rows pm_law_rows cd_law_rows ct_law_rows : Value} {od_law_rows an_law_rows : Option Addr} {sl_law_rows : Array (Option Value)} {f_law_rows : Addr}
    {oc_law_roots kV_law_roots dc_law_roots pm_law_roots cd_law_roots ct_law_roots : Value} {od_law_roots an_law_roots : Option Addr} {sl_law_roots : Array (Option Value)} {f_law_roots : Addr}
    {oc_law_space kV_law_space dc_law_space pm_law_space cd_law_space ct_law_space : Value} {od_law_space an_law_space : Option Addr} {sl_law_space : Array (Option Value)} {f_law_space : Addr}
    {oc_law_walk kV_law_walk dc_law_walk pm_law_walk cd_law_walk ct_law_walk : Value} {od_law_walk an_law_walk : Option Addr} {sl_law_walk : Array (Option Value)} {f_law_walk : Addr}
    {oc_law_extended kV_law_extended dc_law_extended pm_law_extended cd_law_extended ct_law_extended : Value} {od_law_extended an_law_extended : Option Addr} {sl_law_extended : Array (Option Value)} {f_law_extended : Addr}
    {oc_law_best kV_law_best dc_law_best pm_law_best cd_law_best ct_law_best : Value} {od_law_best an_law_best : Option Addr} {sl_law_best : Array (Option Value)} {f_law_best : Addr}
    {oc_law_path_is kV_law_path_is dc_law_path_is pm_law_path_is cd_law_path_is ct_law_path_is : Value} {od_law_path_is an_law_path_is : Option Addr} {sl_law_path_is : Array (Option Value)} {f_law_path_is : Addr}
    {oc_law_told kV_law_told dc_law_told pm_law_told cd_law_told ct_law_told : Value} {od_law_told an_law_told : Option Addr} {sl_law_told : Array (Option Value)} {f_law_told : Addr}
    {oc_law_drawn kV_law_drawn dc_law_drawn pm_law_drawn cd_law_drawn ct_law_drawn : Value} {od_law_drawn an_law_drawn : Option Addr} {sl_law_drawn : Array (Option Value)} {f_law_drawn : Addr}
    {oc_law_kept kV_law_kept dc_law_kept pm_law_kept cd_law_kept ct_law_kept : Value} {od_law_kept an_law_kept : Option Addr} {sl_law_kept : Array (Option Value)} {f_law_kept : Addr}
    {oclaw kVlaw dclaw pmlaw cdlaw ctlaw : Value} {odlaw anlaw : Option Addr} {sllaw : Array (Option Value)} {flaw : Addr}
    (z_bool : PySem.W.nsIn K mainGlobals "bool" = some none)
    (z_dict : PySem.W.nsIn K mainGlobals "dict" = some none)
    (z_int : PySem.W.nsIn K mainGlobals "int" = some none)
    (z_isinstance : PySem.W.nsIn K mainGlobals "isinstance" = some none)
    (z_len : PySem.W.nsIn K mainGlobals "len" = some none)
    (z_list : PySem.W.nsIn K mainGlobals "list" = some none)
    (z_min : PySem.W.nsIn K mainGlobals "min" = some none)
    (z_range : PySem.W.nsIn K mainGlobals "range" = some none)
    (z_sorted : PySem.W.nsIn K mainGlobals "sorted" = some none)
    (z_tuple : PySem.W.nsIn K mainGlobals "tuple" = some none)
    (c_NIL : PySem.W.nsIn K mainGlobals "NIL" = some (some (.int (0) t_NIL)))
    (c_HEADER : PySem.W.nsIn K mainGlobals "HEADER" = some (some (.int (3) t_HEADER)))
    (c_ROOTS : PySem.W.nsIn K mainGlobals "ROOTS" = some (some (.int (16) t_ROOTS)))
    (cl_Store : PySem.W.nsIn K mainGlobals "Store" = some (some (.ref C_Store)))
    (pg_Store : PySem.W.plainGet K C_Store Str.empty = true)
    (hd_Store : PySem.W.hasDictIn K C_Store = true)
    (po_Store : PySem.W.plainOver K C_Store = true)
    (sa_Store : PySem.W.findIn K (.ref C_Store) "__setattr__" = some (some (.builtin "object.__setattr__")))
    (mk_Store : PySem.W.makesIn K C_Store = true)
    (kp_Store : PySem.W.keepIn K (.ref C_Store) = true)
    (na_Store_room : PySem.W.findIn K (.ref C_Store) "room" = some none)
    (na_Store_entries : PySem.W.findIn K (.ref C_Store) "entries" = some none)
    (na_Store_words : PySem.W.findIn K (.ref C_Store) "words" = some none)
    (na_Store__places : PySem.W.findIn K (.ref C_Store) "_places" = some none)
    (na_Store__least : PySem.W.findIn K (.ref C_Store) "_least" = some none)
    (cl_Space : PySem.W.nsIn K mainGlobals "Space" = some (some (.ref C_Space)))
    (pg_Space : PySem.W.plainGet K C_Space Str.empty = true)
    (hd_Space : PySem.W.hasDictIn K C_Space = true)
    (po_Space : PySem.W.plainOver K C_Space = true)
    (sa_Space : PySem.W.findIn K (.ref C_Space) "__setattr__" = some (some (.builtin "object.__setattr__")))
    (mk_Space : PySem.W.makesIn K C_Space = true)
    (kp_Space : PySem.W.keepIn K (.ref C_Space) = true)
    (na_Space_store : PySem.W.findIn K (.ref C_Space) "store" = some none)
    (na_Space_pressure : PySem.W.findIn K (.ref C_Space) "pressure" = some none)
    (na_Space_always : PySem.W.findIn K (.ref C_Space) "always" = some none)
    (na_Space_allocations : PySem.W.findIn K (.ref C_Space) "allocations" = some none)
    (na_Space_collections : PySem.W.findIn K (.ref C_Space) "collections" = some none)
    (na_Space__roots : PySem.W.findIn K (.ref C_Space) "_roots" = some none)
    (na_Space__held : PySem.W.findIn K (.ref C_Space) "_held" = some none)
    (na_Space__saved : PySem.W.findIn K (.ref C_Space) "_saved" = some none)
    (a_is_ref : PySem.W.nsIn K mainGlobals "is_ref" = some (some (.ref fis_ref)))
    (l_is_ref : K.lookup fis_ref = some ⟨ocis_ref, odis_ref, .func (PySem.W.fnOf "is_ref" "is_ref" (defArgs s_is_ref) (defBody s_is_ref) (defScope s_is_ref) .none kVis_ref dcis_ref pmis_ref anis_ref cdis_ref ctis_ref), slis_ref⟩)
    (c_is_ref : PySem.W.codeIn K cdis_ref "is_ref" = true)
    (k_is_ref : PySem.W.keepIn K (.ref fis_ref) = true)
    (a_ref_of : PySem.W.nsIn K mainGlobals "ref_of" = some (some (.ref fref_of)))
    (l_ref_of : K.lookup fref_of = some ⟨ocref_of, odref_of, .func (PySem.W.fnOf "ref_of" "ref_of" (defArgs s_ref_of) (defBody s_ref_of) (defScope s_ref_of) .none kVref_of dcref_of pmref_of anref_of cdref_of ctref_of), slref_of⟩)
    (c_ref_of : PySem.W.codeIn K cdref_of "ref_of" = true)
    (k_ref_of : PySem.W.keepIn K (.ref fref_of) = true)
    (a_reached : PySem.W.nsIn K mainGlobals "reached" = some (some (.ref freached)))
    (l_reached : K.lookup freached = some ⟨ocreached, odreached, .func (PySem.W.fnOf "reached" "reached" (defArgs s_reached) (defBody s_reached) (defScope s_reached) .none kVreached dcreached pmreached anreached cdreached ctreached), slreached⟩)
    (c_reached : PySem.W.codeIn K cdreached "reached" = true)
    (k_reached : PySem.W.keepIn K (.ref freached) = true)
    (a_collect : PySem.W.nsIn K mainGlobals "collect" = some (some (.ref fcollect)))
    (l_collect : K.lookup fcollect = some ⟨occollect, odcollect, .func (PySem.W.fnOf "collect" "collect" (defArgs s_collect) (defBody s_collect) (defScope s_collect) .none kVcollect dccollect pmcollect ancollect cdcollect ctcollect), slcollect⟩)
    (c_collect : PySem.W.codeIn K cdcollect "collect" = true)
    (k_collect : PySem.W.keepIn K (.ref fcollect) = true)
    (a_object_of : PySem.W.nsIn K mainGlobals "object_of" = some (some (.ref fobject_of)))
    (l_object_of : K.lookup fobject_of = some ⟨ocobject_of, odobject_of, .func (PySem.W.fnOf "object_of" "object_of" (defArgs s_object_of) (defBody s_object_of) (defScope s_object_of) .none kVobject_of dcobject_of pmobject_of anobject_of cdobject_of ctobject_of), slobject_of⟩)
    (c_object_of : PySem.W.codeIn K cdobject_of "object_of" = true)
    (k_object_of : PySem.W.keepIn K (.ref fobject_of) = true)
    (a_row_of : PySem.W.nsIn K mainGlobals "row_of" = some (some (.ref frow_of)))
    (l_row_of : K.lookup frow_of = some ⟨ocrow_of, odrow_of, .func (PySem.W.fnOf "row_of" "row_of" (defArgs s_row_of) (defBody s_row_of) (defScope s_row_of) .none kVrow_of dcrow_of pmrow_of anrow_of cdrow_of ctrow_of), slrow_of⟩)
    (c_row_of : PySem.W.codeIn K cdrow_of "row_of" = true)
    (k_row_of : PySem.W.keepIn K (.ref frow_of) = true)
    (a_word_at : PySem.W.nsIn K mainGlobals "word_at" = some (some (.ref fword_at)))
    (l_word_at : K.lookup fword_at = some ⟨ocword_at, odword_at, .func (PySem.W.fnOf "word_at" "word_at" (defArgs s_word_at) (defBody s_word_at) (defScope s_word_at) .none kVword_at dcword_at pmword_at anword_at cdword_at ctword_at), slword_at⟩)
    (c_word_at : PySem.W.codeIn K cdword_at "word_at" = true)
    (k_word_at : PySem.W.keepIn K (.ref fword_at) = true)
    (a_paths : PySem.W.nsIn K mainGlobals "paths" = some (some (.ref fpaths)))
    (l_paths : K.lookup fpaths = some ⟨ocpaths, odpaths, .func (PySem.W.fnOf "paths" "paths" (defArgs s_paths) (defBody s_paths) (defScope s_paths) .none kVpaths dcpaths pmpaths anpaths cdpaths ctpaths), slpaths⟩)
    (c_paths : PySem.W.codeIn K cdpaths "paths" = true)
    (k_paths : PySem.W.keepIn K (.ref fpaths) = true)
    (a_garbage : PySem.W.nsIn K mainGlobals "garbage" = some (some (.ref fgarbage)))
    (l_garbage : K.lookup fgarbage = some ⟨ocgarbage, odgarbage, .func (PySem.W.fnOf "garbage" "garbage" (defArgs s_garbage) (defBody s_garbage) (defScope s_garbage) .none kVgarbage dcgarbage pmgarbage angarbage cdgarbage ctgarbage), slgarbage⟩)
    (c_garbage : PySem.W.codeIn K cdgarbage "garbage" = true)
    (k_garbage : PySem.W.keepIn K (.ref fgarbage) = true)
    (a_Store___init__ : PySem.W.findIn K (.ref C_Store) "__init__" = some (some (.ref fStore___init__)))
    (l_Store___init__ : K.lookup fStore___init__ = some ⟨ocStore___init__, odStore___init__, .func (PySem.W.fnOf "__init__" "Store.__init__" (defArgs s_Store___init__) (defBody s_Store___init__) (defScope s_Store___init__) .none kVStore___init__ dcStore___init__ pmStore___init__ anStore___init__ cdStore___init__ ctStore___init__), slStore___init__⟩)
    (c_Store___init__ : PySem.W.codeIn K cdStore___init__ "Store.__init__" = true)
    (k_Store___init__ : PySem.W.keepIn K (.ref fStore___init__) = true)
    (fn_Store___init__ : PySem.W.isFn K (.ref fStore___init__) = true)
    (a_Store_exists : PySem.W.findIn K (.ref C_Store) "exists" = some (some (.ref fStore_exists)))
    (l_Store_exists : K.lookup fStore_exists = some ⟨ocStore_exists, odStore_exists, .func (PySem.W.fnOf "exists" "Store.exists" (defArgs s_Store_exists) (defBody s_Store_exists) (defScope s_Store_exists) .none kVStore_exists dcStore_exists pmStore_exists anStore_exists cdStore_exists ctStore_exists), slStore_exists⟩)
    (c_Store_exists : PySem.W.codeIn K cdStore_exists "Store.exists" = true)
    (k_Store_exists : PySem.W.keepIn K (.ref fStore_exists) = true)
    (fn_Store_exists : PySem.W.isFn K (.ref fStore_exists) = true)
    (a_Store_numbers : PySem.W.findIn K (.ref C_Store) "numbers" = some (some (.ref fStore_numbers)))
    (l_Store_numbers : K.lookup fStore_numbers = some ⟨ocStore_numbers, odStore_numbers, .func (PySem.W.fnOf "numbers" "Store.numbers" (defArgs s_Store_numbers) (defBody s_Store_numbers) (defScope s_Store_numbers) .none kVStore_numbers dcStore_numbers pmStore_numbers anStore_numbers cdStore_numbers ctStore_numbers), slStore_numbers⟩)
    (c_Store_numbers : PySem.W.codeIn K cdStore_numbers "Store.numbers" = true)
    (k_Store_numbers : PySem.W.keepIn K (.ref fStore_numbers) = true)
    (fn_Store_numbers : PySem.W.isFn K (.ref fStore_numbers) = true)
    (a_Store_free_number : PySem.W.findIn K (.ref C_Store) "free_number" = some (some (.ref fStore_free_number)))
    (l_Store_free_number : K.lookup fStore_free_number = some ⟨ocStore_free_number, odStore_free_number, .func (PySem.W.fnOf "free_number" "Store.free_number" (defArgs s_Store_free_number) (defBody s_Store_free_number) (defScope s_Store_free_number) .none kVStore_free_number dcStore_free_number pmStore_free_number anStore_free_number cdStore_free_number ctStore_free_number), slStore_free_number⟩)
    (c_Store_free_number : PySem.W.codeIn K cdStore_free_number "Store.free_number" = true)
    (k_Store_free_number : PySem.W.keepIn K (.ref fStore_free_number) = true)
    (fn_Store_free_number : PySem.W.isFn K (.ref fStore_free_number) = true)
    (a_Store_allocate : PySem.W.findIn K (.ref C_Store) "allocate" = some (some (.ref fStore_allocate)))
    (l_Store_allocate : K.lookup fStore_allocate = some ⟨ocStore_allocate, odStore_allocate, .func (PySem.W.fnOf "allocate" "Store.allocate" (defArgs s_Store_allocate) (defBody s_Store_allocate) (defScope s_Store_allocate) .none kVStore_allocate dcStore_allocate pmStore_allocate anStore_allocate cdStore_allocate ctStore_allocate), slStore_allocate⟩)
    (c_Store_allocate : PySem.W.codeIn K cdStore_allocate "Store.allocate" = true)
    (k_Store_allocate : PySem.W.keepIn K (.ref fStore_allocate) = true)
    (fn_Store_allocate : PySem.W.isFn K (.ref fStore_allocate) = true)
    (a_Store_size : PySem.W.findIn K (.ref C_Store) "size" = some (some (.ref fStore_size)))
    (l_Store_size : K.lookup fStore_size = some ⟨ocStore_size, odStore_size, .func (PySem.W.fnOf "size" "Store.size" (defArgs s_Store_size) (defBody s_Store_size) (defScope s_Store_size) .none kVStore_size dcStore_size pmStore_size anStore_size cdStore_size ctStore_size), slStore_size⟩)
    (c_Store_size : PySem.W.codeIn K cdStore_size "Store.size" = true)
    (k_Store_size : PySem.W.keepIn K (.ref fStore_size) = true)
    (fn_Store_size : PySem.W.isFn K (.ref fStore_size) = true)
    (a_Store_kind : PySem.W.findIn K (.ref C_Store) "kind" = some (some (.ref fStore_kind)))
    (l_Store_kind : K.lookup fStore_kind = some ⟨ocStore_kind, odStore_kind, .func (PySem.W.fnOf "kind" "Store.kind" (defArgs s_Store_kind) (defBody s_Store_kind) (defScope s_Store_kind) .none kVStore_kind dcStore_kind pmStore_kind anStore_kind cdStore_kind ctStore_kind), slStore_kind⟩)
    (c_Store_kind : PySem.W.codeIn K cdStore_kind "Store.kind" = true)
    (k_Store_kind : PySem.W.keepIn K (.ref fStore_kind) = true)
    (fn_Store_kind : PySem.W.isFn K (.ref fStore_kind) = true)
    (a_Store_put : PySem.W.findIn K (.ref C_Store) "put" = some (some (.ref fStore_put)))
    (l_Store_put : K.lookup fStore_put = some ⟨ocStore_put, odStore_put, .func (PySem.W.fnOf "put" "Store.put" (defArgs s_Store_put) (defBody s_Store_put) (defScope s_Store_put) .none kVStore_put dcStore_put pmStore_put anStore_put cdStore_put ctStore_put), slStore_put⟩)
    (c_Store_put : PySem.W.codeIn K cdStore_put "Store.put" = true)
    (k_Store_put : PySem.W.keepIn K (.ref fStore_put) = true)
    (fn_Store_put : PySem.W.isFn K (.ref fStore_put) = true)
    (a_Store_slots : PySem.W.findIn K (.ref C_Store) "slots" = some (some (.ref fStore_slots)))
    (l_Store_slots : K.lookup fStore_slots = some ⟨ocStore_slots, odStore_slots, .func (PySem.W.fnOf "slots" "Store.slots" (defArgs s_Store_slots) (defBody s_Store_slots) (defScope s_Store_slots) .none kVStore_slots dcStore_slots pmStore_slots anStore_slots cdStore_slots ctStore_slots), slStore_slots⟩)
    (c_Store_slots : PySem.W.codeIn K cdStore_slots "Store.slots" = true)
    (k_Store_slots : PySem.W.keepIn K (.ref fStore_slots) = true)
    (fn_Store_slots : PySem.W.isFn K (.ref fStore_slots) = true)
    (a_Store_drop : PySem.W.findIn K (.ref C_Store) "drop" = some (some (.ref fStore_drop)))
    (l_Store_drop : K.lookup fStore_drop = some ⟨ocStore_drop, odStore_drop, .func (PySem.W.fnOf "drop" "Store.drop" (defArgs s_Store_drop) (defBody s_Store_drop) (defScope s_Store_drop) .none kVStore_drop dcStore_drop pmStore_drop anStore_drop cdStore_drop ctStore_drop), slStore_drop⟩)
    (c_Store_drop : PySem.W.codeIn K cdStore_drop "Store.drop" = true)
    (k_Store_drop : PySem.W.keepIn K (.ref fStore_drop) = true)
    (fn_Store_drop : PySem.W.isFn K (.ref fStore_drop) = true)
    (a_Store_close_up : PySem.W.findIn K (.ref C_Store) "close_up" = some (some (.ref fStore_close_up)))
    (l_Store_close_up : K.lookup fStore_close_up = some ⟨ocStore_close_up, odStore_close_up, .func (PySem.W.fnOf "close_up" "Store.close_up" (defArgs s_Store_close_up) (defBody s_Store_close_up) (defScope s_Store_close_up) .none kVStore_close_up dcStore_close_up pmStore_close_up anStore_close_up (.ref cAStore_close_up) ctStore_close_up), slStore_close_up⟩)
    (c_Store_close_up : PySem.W.codeIn K (.ref cAStore_close_up) "Store.close_up" = true)
    (k_Store_close_up : PySem.W.keepIn K (.ref fStore_close_up) = true)
    (x1_Store_close_up : K.lookup cAStore_close_up = some ⟨cclStore_close_up, cddStore_close_up, .fields vsStore_close_up, ccsStore_close_up⟩)
    (x2_Store_close_up : vsStore_close_up[11]? = some (.ref PTStore_close_up))
    (x3_Store_close_up : PySem.W.codeHdIn K cAStore_close_up PTStore_close_up = true)
    (x4_Store_close_up : K.lookup PTStore_close_up = none)
    (fn_Store_close_up : PySem.W.isFn K (.ref fStore_close_up) = true)
    (a_Store_exchange : PySem.W.findIn K (.ref C_Store) "exchange" = some (some (.ref fStore_exchange)))
    (l_Store_exchange : K.lookup fStore_exchange = some ⟨ocStore_exchange, odStore_exchange, .func (PySem.W.fnOf "exchange" "Store.exchange" (defArgs s_Store_exchange) (defBody s_Store_exchange) (defScope s_Store_exchange) .none kVStore_exchange dcStore_exchange pmStore_exchange anStore_exchange cdStore_exchange ctStore_exchange), slStore_exchange⟩)
    (c_Store_exchange : PySem.W.codeIn K cdStore_exchange "Store.exchange" = true)
    (k_Store_exchange : PySem.W.keepIn K (.ref fStore_exchange) = true)
    (fn_Store_exchange : PySem.W.isFn K (.ref fStore_exchange) = true)
    (a_Space___init__ : PySem.W.findIn K (.ref C_Space) "__init__" = some (some (.ref fSpace___init__)))
    (l_Space___init__ : K.lookup fSpace___init__ = some ⟨ocSpace___init__, odSpace___init__, .func (PySem.W.fnOf "__init__" "Space.__init__" (defArgs s_Space___init__) (defBody s_Space___init__) (defScope s_Space___init__) .none kVSpace___init__ dcSpace___init__ pmSpace___init__ anSpace___init__ cdSpace___init__ ctSpace___init__), slSpace___init__⟩)
    (c_Space___init__ : PySem.W.codeIn K cdSpace___init__ "Space.__init__" = true)
    (k_Space___init__ : PySem.W.keepIn K (.ref fSpace___init__) = true)
    (fn_Space___init__ : PySem.W.isFn K (.ref fSpace___init__) = true)
    (a_Space_set_root : PySem.W.findIn K (.ref C_Space) "set_root" = some (some (.ref fSpace_set_root)))
    (l_Space_set_root : K.lookup fSpace_set_root = some ⟨ocSpace_set_root, odSpace_set_root, .func (PySem.W.fnOf "set_root" "Space.set_root" (defArgs s_Space_set_root) (defBody s_Space_set_root) (defScope s_Space_set_root) .none kVSpace_set_root dcSpace_set_root pmSpace_set_root anSpace_set_root cdSpace_set_root ctSpace_set_root), slSpace_set_root⟩)
    (c_Space_set_root : PySem.W.codeIn K cdSpace_set_root "Space.set_root" = true)
    (k_Space_set_root : PySem.W.keepIn K (.ref fSpace_set_root) = true)
    (fn_Space_set_root : PySem.W.isFn K (.ref fSpace_set_root) = true)
    (a_Space_hold : PySem.W.findIn K (.ref C_Space) "hold" = some (some (.ref fSpace_hold)))
    (l_Space_hold : K.lookup fSpace_hold = some ⟨ocSpace_hold, odSpace_hold, .func (PySem.W.fnOf "hold" "Space.hold" (defArgs s_Space_hold) (defBody s_Space_hold) (defScope s_Space_hold) .none kVSpace_hold dcSpace_hold pmSpace_hold anSpace_hold cdSpace_hold ctSpace_hold), slSpace_hold⟩)
    (c_Space_hold : PySem.W.codeIn K cdSpace_hold "Space.hold" = true)
    (k_Space_hold : PySem.W.keepIn K (.ref fSpace_hold) = true)
    (fn_Space_hold : PySem.W.isFn K (.ref fSpace_hold) = true)
    (a_Space_all_roots : PySem.W.findIn K (.ref C_Space) "all_roots" = some (some (.ref fSpace_all_roots)))
    (l_Space_all_roots : K.lookup fSpace_all_roots = some ⟨ocSpace_all_roots, odSpace_all_roots, .func (PySem.W.fnOf "all_roots" "Space.all_roots" (defArgs s_Space_all_roots) (defBody s_Space_all_roots) (defScope s_Space_all_roots) .none kVSpace_all_roots dcSpace_all_roots pmSpace_all_roots anSpace_all_roots cdSpace_all_roots ctSpace_all_roots), slSpace_all_roots⟩)
    (c_Space_all_roots : PySem.W.codeIn K cdSpace_all_roots "Space.all_roots" = true)
    (k_Space_all_roots : PySem.W.keepIn K (.ref fSpace_all_roots) = true)
    (fn_Space_all_roots : PySem.W.isFn K (.ref fSpace_all_roots) = true)
    (a_Space_collect : PySem.W.findIn K (.ref C_Space) "collect" = some (some (.ref fSpace_collect)))
    (l_Space_collect : K.lookup fSpace_collect = some ⟨ocSpace_collect, odSpace_collect, .func (PySem.W.fnOf "collect" "Space.collect" (defArgs s_Space_collect) (defBody s_Space_collect) (defScope s_Space_collect) .none kVSpace_collect dcSpace_collect pmSpace_collect anSpace_collect cdSpace_collect ctSpace_collect), slSpace_collect⟩)
    (c_Space_collect : PySem.W.codeIn K cdSpace_collect "Space.collect" = true)
    (k_Space_collect : PySem.W.keepIn K (.ref fSpace_collect) = true)
    (fn_Space_collect : PySem.W.isFn K (.ref fSpace_collect) = true)
    (a_Space_collect_with : PySem.W.findIn K (.ref C_Space) "collect_with" = some (some (.ref fSpace_collect_with)))
    (l_Space_collect_with : K.lookup fSpace_collect_with = some ⟨ocSpace_collect_with, odSpace_collect_with, .func (PySem.W.fnOf "collect_with" "Space.collect_with" (defArgs s_Space_collect_with) (defBody s_Space_collect_with) (defScope s_Space_collect_with) .none kVSpace_collect_with dcSpace_collect_with pmSpace_collect_with anSpace_collect_with cdSpace_collect_with ctSpace_collect_with), slSpace_collect_with⟩)
    (c_Space_collect_with : PySem.W.codeIn K cdSpace_collect_with "Space.collect_with" = true)
    (k_Space_collect_with : PySem.W.keepIn K (.ref fSpace_collect_with) = true)
    (fn_Space_collect_with : PySem.W.isFn K (.ref fSpace_collect_with) = true)
    (a_Space_new : PySem.W.findIn K (.ref C_Space) "new" = some (some (.ref fSpace_new)))
    (l_Space_new : K.lookup fSpace_new = some ⟨ocSpace_new, odSpace_new, .func (PySem.W.fnOf "new" "Space.new" (defArgs s_Space_new) (defBody s_Space_new) (defScope s_Space_new) .none kVSpace_new dcSpace_new pmSpace_new anSpace_new cdSpace_new ctSpace_new), slSpace_new⟩)
    (c_Space_new : PySem.W.codeIn K cdSpace_new "Space.new" = true)
    (k_Space_new : PySem.W.keepIn K (.ref fSpace_new) = true)
    (fn_Space_new : PySem.W.isFn K (.ref fSpace_new) = true)
    (a_Space_fitted : PySem.W.findIn K (.ref C_Space) "fitted" = some (some (.ref fSpace_fitted)))
    (l_Space_fitted : K.lookup fSpace_fitted = some ⟨ocSpace_fitted, odSpace_fitted, .func (PySem.W.fnOf "fitted" "Space.fitted" (defArgs s_Space_fitted) (defBody s_Space_fitted) (defScope s_Space_fitted) .none kVSpace_fitted dcSpace_fitted pmSpace_fitted anSpace_fitted cdSpace_fitted ctSpace_fitted), slSpace_fitted⟩)
    (c_Space_fitted : PySem.W.codeIn K cdSpace_fitted "Space.fitted" = true)
    (k_Space_fitted : PySem.W.keepIn K (.ref fSpace_fitted) = true)
    (fn_Space_fitted : PySem.W.isFn K (.ref fSpace_fitted) = true)
    (a__law_number : PySem.W.nsIn K mainGlobals "_law_number" = some (some (.ref f_law_number)))
    (l__law_number : K.lookup f_law_number = some ⟨oc_law_number, od_law_number, .func (PySem.W.fnOf "_law_number" "_law_number" (defArgs s__law_number) (defBody s__law_number) (defScope s__law_number) .none kV_law_number dc_law_number pm_law_number an_law_number cd_law_number ct_law_number), sl_law_number⟩)
    (c__law_number : PySem.W.codeIn K cd_law_number "_law_number" = true)
    (k__law_number : PySem.W.keepIn K (.ref f_law_number) = true)
    (a__law_word : PySem.W.nsIn K mainGlobals "_law_word" = some (some (.ref f_law_word)))
    (l__law_word : K.lookup f_law_word = some ⟨oc_law_word, od_law_word, .func (PySem.W.fnOf "_law_word" "_law_word" (defArgs s__law_word) (defBody s__law_word) (defScope s__law_word) .none kV_law_word dc_law_word pm_law_word an_law_word cd_law_word ct_law_word), sl_law_word⟩)
    (c__law_word : PySem.W.codeIn K cd_law_word "_law_word" = true)
    (k__law_word : PySem.W.keepIn K (.ref f_law_word) = true)
    (a__law_is : PySem.W.nsIn K mainGlobals "_law_is" = some (some (.ref f_law_is)))
    (l__law_is : K.lookup f_law_is = some ⟨oc_law_is, od_law_is, .func (PySem.W.fnOf "_law_is" "_law_is" (defArgs s__law_is) (defBody s__law_is) (defScope s__law_is) .none kV_law_is dc_law_is pm_law_is an_law_is cd_law_is ct_law_is), sl_law_is⟩)
    (c__law_is : PySem.W.codeIn K cd_law_is "_law_is" = true)
    (k__law_is : PySem.W.keepIn K (.ref f_law_is) = true)
    (a__law_same : PySem.W.nsIn K mainGlobals "_law_same" = some (some (.ref f_law_same)))
    (l__law_same : K.lookup f_law_same = some ⟨oc_law_same, od_law_same, .func (PySem.W.fnOf "_law_same" "_law_same" (defArgs s__law_same) (defBody s__law_same) (defScope s__law_same) .none kV_law_same dc_law_same pm_law_same an_law_same cd_law_same ct_law_same), sl_law_same⟩)
    (c__law_same : PySem.W.codeIn K cd_law_same "_law_same" = true)
    (k__law_same : PySem.W.keepIn K (.ref f_law_same) = true)
    (a__law_sizes : PySem.W.nsIn K mainGlobals "_law_sizes" = some (some (.ref f_law_sizes)))
    (l__law_sizes : K.lookup f_law_sizes = some ⟨oc_law_sizes, od_law_sizes, .func (PySem.W.fnOf "_law_sizes" "_law_sizes" (defArgs s__law_sizes) (defBody s__law_sizes) (defScope s__law_sizes) .none kV_law_sizes dc_law_sizes pm_law_sizes an_law_sizes cd_law_sizes ct_law_sizes), sl_law_sizes⟩)
    (c__law_sizes : PySem.W.codeIn K cd_law_sizes "_law_sizes" = true)
    (k__law_sizes : PySem.W.keepIn K (.ref f_law_sizes) = true)
    (a__law_rows : PySem.W.nsIn K mainGlobals "_law_rows" = some (some (.ref f_law_rows)))
    (l__law_rows : K.lookup f_law_rows = some ⟨oc_law_rows, od_law_rows, .func (PySem.W.fnOf "_law_rows" "_law_rows" (defArgs s__law_rows) (defBody s__law_rows) (defScope s__law_rows) .none kV_law_rows dc_law_rows pm_law_rows an_law_rows cd_law_rows ct_law_rows), sl_law_rows⟩)
    (c__law_rows : PySem.W.codeIn K cd_law_rows "_law_rows" = true)
    (k__law_rows : PySem.W.keepIn K (.ref f_law_rows) = true)
    (a__law_roots : PySem.W.nsIn K mainGlobals "_law_roots" = some (some (.ref f_law_roots)))
    (l__law_roots : K.lookup f_law_roots = some ⟨oc_law_roots, od_law_roots, .func (PySem.W.fnOf "_law_roots" "_law_roots" (defArgs s__law_roots) (defBody s__law_roots) (defScope s__law_roots) .none kV_law_roots dc_law_roots pm_law_roots an_law_roots cd_law_roots ct_law_roots), sl_law_roots⟩)
    (c__law_roots : PySem.W.codeIn K cd_law_roots "_law_roots" = true)
    (k__law_roots : PySem.W.keepIn K (.ref f_law_roots) = true)
    (a__law_space : PySem.W.nsIn K mainGlobals "_law_space" = some (some (.ref f_law_space)))
    (l__law_space : K.lookup f_law_space = some ⟨oc_law_space, od_law_space, .func (PySem.W.fnOf "_law_space" "_law_space" (defArgs s__law_space) (defBody s__law_space) (defScope s__law_space) .none kV_law_space dc_law_space pm_law_space an_law_space cd_law_space ct_law_space), sl_law_space⟩)
    (c__law_space : PySem.W.codeIn K cd_law_space "_law_space" = true)
    (k__law_space : PySem.W.keepIn K (.ref f_law_space) = true)
    (a__law_walk : PySem.W.nsIn K mainGlobals "_law_walk" = some (some (.ref f_law_walk)))
    (l__law_walk : K.lookup f_law_walk = some ⟨oc_law_walk, od_law_walk, .func (PySem.W.fnOf "_law_walk" "_law_walk" (defArgs s__law_walk) (defBody s__law_walk) (defScope s__law_walk) .none kV_law_walk dc_law_walk pm_law_walk an_law_walk cd_law_walk ct_law_walk), sl_law_walk⟩)
    (c__law_walk : PySem.W.codeIn K cd_law_walk "_law_walk" = true)
    (k__law_walk : PySem.W.keepIn K (.ref f_law_walk) = true)
    (a__law_extended : PySem.W.nsIn K mainGlobals "_law_extended" = some (some (.ref f_law_extended)))
    (l__law_extended : K.lookup f_law_extended = some ⟨oc_law_extended, od_law_extended, .func (PySem.W.fnOf "_law_extended" "_law_extended" (defArgs s__law_extended) (defBody s__law_extended) (defScope s__law_extended) .none kV_law_extended dc_law_extended pm_law_extended an_law_extended cd_law_extended ct_law_extended), sl_law_extended⟩)
    (c__law_extended : PySem.W.codeIn K cd_law_extended "_law_extended" = true)
    (k__law_extended : PySem.W.keepIn K (.ref f_law_extended) = true)
    (a__law_best : PySem.W.nsIn K mainGlobals "_law_best" = some (some (.ref f_law_best)))
    (l__law_best : K.lookup f_law_best = some ⟨oc_law_best, od_law_best, .func (PySem.W.fnOf "_law_best" "_law_best" (defArgs s__law_best) (defBody s__law_best) (defScope s__law_best) .none kV_law_best dc_law_best pm_law_best an_law_best cd_law_best ct_law_best), sl_law_best⟩)
    (c__law_best : PySem.W.codeIn K cd_law_best "_law_best" = true)
    (k__law_best : PySem.W.keepIn K (.ref f_law_best) = true)
    (a__law_path_is : PySem.W.nsIn K mainGlobals "_law_path_is" = some (some (.ref f_law_path_is)))
    (l__law_path_is : K.lookup f_law_path_is = some ⟨oc_law_path_is, od_law_path_is, .func (PySem.W.fnOf "_law_path_is" "_law_path_is" (defArgs s__law_path_is) (defBody s__law_path_is) (defScope s__law_path_is) .none kV_law_path_is dc_law_path_is pm_law_path_is an_law_path_is cd_law_path_is ct_law_path_is), sl_law_path_is⟩)
    (c__law_path_is : PySem.W.codeIn K cd_law_path_is "_law_path_is" = true)
    (k__law_path_is : PySem.W.keepIn K (.ref f_law_path_is) = true)
    (a__law_told : PySem.W.nsIn K mainGlobals "_law_told" = some (some (.ref f_law_told)))
    (l__law_told : K.lookup f_law_told = some ⟨oc_law_told, od_law_told, .func (PySem.W.fnOf "_law_told" "_law_told" (defArgs s__law_told) (defBody s__law_told) (defScope s__law_told) .none kV_law_told dc_law_told pm_law_told an_law_told cd_law_told ct_law_told), sl_law_told⟩)
    (c__law_told : PySem.W.codeIn K cd_law_told "_law_told" = true)
    (k__law_told : PySem.W.keepIn K (.ref f_law_told) = true)
    (a__law_drawn : PySem.W.nsIn K mainGlobals "_law_drawn" = some (some (.ref f_law_drawn)))
    (l__law_drawn : K.lookup f_law_drawn = some ⟨oc_law_drawn, od_law_drawn, .func (PySem.W.fnOf "_law_drawn" "_law_drawn" (defArgs s__law_drawn) (defBody s__law_drawn) (defScope s__law_drawn) .none kV_law_drawn dc_law_drawn pm_law_drawn an_law_drawn cd_law_drawn ct_law_drawn), sl_law_drawn⟩)
    (c__law_drawn : PySem.W.codeIn K cd_law_drawn "_law_drawn" = true)
    (k__law_drawn : PySem.W.keepIn K (.ref f_law_drawn) = true)
    (a__law_kept : PySem.W.nsIn K mainGlobals "_law_kept" = some (some (.ref f_law_kept)))
    (l__law_kept : K.lookup f_law_kept = some ⟨oc_law_kept, od_law_kept, .func (PySem.W.fnOf "_law_kept" "_law_kept" (defArgs s__law_kept) (defBody s__law_kept) (defScope s__law_kept) .none kV_law_kept dc_law_kept pm_law_kept an_law_kept cd_law_kept ct_law_kept), sl_law_kept⟩)
    (c__law_kept : PySem.W.codeIn K cd_law_kept "_law_kept" = true)
    (k__law_kept : PySem.W.keepIn K (.ref f_law_kept) = true)
    (a_law : PySem.W.nsIn K mainGlobals "law" = some (some (.ref flaw)))
    (l_law : K.lookup flaw = some ⟨oclaw, odlaw, .func (PySem.W.fnOf "law" "law" (defArgs s_law) (defBody s_law) (defScope s_law) .none kVlaw dclaw pmlaw anlaw cdlaw ctlaw), sllaw⟩)
    (c_law : PySem.W.codeIn K cdlaw "law" = true)
    (k_law : PySem.W.keepIn K (.ref flaw) = true)
    (al_collect_collecting : PySem.W.nsIn K mainGlobals "collect_collecting" = some (some (.ref fcollect))) : Wd l.prog K mg :=
  { n_bool := PySem.W.mg_none_of X G z_bool,
    n_dict := PySem.W.mg_none_of X G z_dict,
    n_int := PySem.W.mg_none_of X G z_int,
    n_isinstance := PySem.W.mg_none_of X G z_isinstance,
    n_len := PySem.W.mg_none_of X G z_len,
    n_list := PySem.W.mg_none_of X G z_list,
    n_min := PySem.W.mg_none_of X G z_min,
    n_range := PySem.W.mg_none_of X G z_range,
    n_sorted := PySem.W.mg_none_of X G z_sorted,
    n_tuple := PySem.W.mg_none_of X G z_tuple,
    t_NIL := t_NIL, g_NIL := PySem.W.mg_of X G c_NIL,
    t_HEADER := t_HEADER, g_HEADER := PySem.W.mg_of X G c_HEADER,
    t_ROOTS := t_ROOTS, g_ROOTS := PySem.W.mg_of X G c_ROOTS,
    c_Store := C_Store, g_Store := PySem.W.mg_of X G cl_Store,
    C_Store := ⟨pg_Store, hd_Store, po_Store, sa_Store⟩,
    na_Store_room := na_Store_room,
    na_Store_entries := na_Store_entries,
    na_Store_words := na_Store_words,
    na_Store__places := na_Store__places,
    na_Store__least := na_Store__least,
    c_Space := C_Space, g_Space := PySem.W.mg_of X G cl_Space,
    C_Space := ⟨pg_Space, hd_Space, po_Space, sa_Space⟩,
    na_Space_store := na_Space_store,
    na_Space_pressure := na_Space_pressure,
    na_Space_always := na_Space_always,
    na_Space_allocations := na_Space_allocations,
    na_Space_collections := na_Space_collections,
    na_Space__roots := na_Space__roots,
    na_Space__held := na_Space__held,
    na_Space__saved := na_Space__saved,
    f_is_ref := fis_ref, fd_is_ref := _, F_is_ref := fun_mk (st := s_is_ref) l_is_ref c_is_ref k_is_ref,
    g_is_ref := PySem.W.mg_of X G a_is_ref,
    b_is_ref := (fun_mk (st := s_is_ref) l_is_ref c_is_ref k_is_ref).binds (ps := ["word"]) fun _ _ _ _ _ _ us hl => match us, hl with | [_], _ => rfl,
    f_ref_of := fref_of, fd_ref_of := _, F_ref_of := fun_mk (st := s_ref_of) l_ref_of c_ref_of k_ref_of,
    g_ref_of := PySem.W.mg_of X G a_ref_of,
    b_ref_of := (fun_mk (st := s_ref_of) l_ref_of c_ref_of k_ref_of).binds (ps := ["word"]) fun _ _ _ _ _ _ us hl => match us, hl with | [_], _ => rfl,
    f_reached := freached, fd_reached := _, F_reached := fun_mk (st := s_reached) l_reached c_reached k_reached,
    g_reached := PySem.W.mg_of X G a_reached,
    b_reached := (fun_mk (st := s_reached) l_reached c_reached k_reached).binds (ps := ["store", "roots"]) fun _ _ _ _ _ _ us hl => match us, hl with | [_, _], _ => rfl,
    f_collect := fcollect, fd_collect := _, F_collect := fun_mk (st := s_collect) l_collect c_collect k_collect,
    g_collect := PySem.W.mg_of X G a_collect,
    b_collect := (fun_mk (st := s_collect) l_collect c_collect k_collect).binds (ps := ["store", "roots"]) fun _ _ _ _ _ _ us hl => match us, hl with | [_, _], _ => rfl,
    f_object_of := fobject_of, fd_object_of := _, F_object_of := fun_mk (st := s_object_of) l_object_of c_object_of k_object_of,
    g_object_of := PySem.W.mg_of X G a_object_of,
    b_object_of := (fun_mk (st := s_object_of) l_object_of c_object_of k_object_of).binds (ps := ["space", "word"]) fun _ _ _ _ _ _ us hl => match us, hl with | [_, _], _ => rfl,
    f_row_of := frow_of, fd_row_of := _, F_row_of := fun_mk (st := s_row_of) l_row_of c_row_of k_row_of,
    g_row_of := PySem.W.mg_of X G a_row_of,
    b_row_of := (fun_mk (st := s_row_of) l_row_of c_row_of k_row_of).binds (ps := ["space", "number"]) fun _ _ _ _ _ _ us hl => match us, hl with | [_, _], _ => rfl,
    f_word_at := fword_at, fd_word_at := _, F_word_at := fun_mk (st := s_word_at) l_word_at c_word_at k_word_at,
    g_word_at := PySem.W.mg_of X G a_word_at,
    b_word_at := (fun_mk (st := s_word_at) l_word_at c_word_at k_word_at).binds (ps := ["space", "path"]) fun _ _ _ _ _ _ us hl => match us, hl with | [_, _], _ => rfl,
    f_paths := fpaths, fd_paths := _, F_paths := fun_mk (st := s_paths) l_paths c_paths k_paths,
    g_paths := PySem.W.mg_of X G a_paths,
    b_paths := (fun_mk (st := s_paths) l_paths c_paths k_paths).binds (ps := ["space"]) fun _ _ _ _ _ _ us hl => match us, hl with | [_], _ => rfl,
    f_garbage := fgarbage, fd_garbage := _, F_garbage := fun_mk (st := s_garbage) l_garbage c_garbage k_garbage,
    g_garbage := PySem.W.mg_of X G a_garbage,
    b_garbage := (fun_mk (st := s_garbage) l_garbage c_garbage k_garbage).binds (ps := ["space"]) fun _ _ _ _ _ _ us hl => match us, hl with | [_], _ => rfl,
    f_Store___init__ := fStore___init__, fd_Store___init__ := _, F_Store___init__ := fun_mk (st := s_Store___init__) l_Store___init__ c_Store___init__ k_Store___init__,
    M_Store := ⟨mk_Store, a_Store___init__, fn_Store___init__, kp_Store⟩,
    b_Store___init__ := (fun_mk (st := s_Store___init__) l_Store___init__ c_Store___init__ k_Store___init__).binds (ps := ["self", "room", "entries"]) fun _ _ _ _ _ _ us hl => match us, hl with | [_, _, _], _ => rfl,
    f_Store_exists := fStore_exists, fd_Store_exists := _, F_Store_exists := fun_mk (st := s_Store_exists) l_Store_exists c_Store_exists k_Store_exists,
    m_Store_exists := ⟨a_Store_exists, fn_Store_exists, k_Store_exists⟩,
    b_Store_exists := (fun_mk (st := s_Store_exists) l_Store_exists c_Store_exists k_Store_exists).binds (ps := ["self", "number"]) fun _ _ _ _ _ _ us hl => match us, hl with | [_, _], _ => rfl,
    f_Store_numbers := fStore_numbers, fd_Store_numbers := _, F_Store_numbers := fun_mk (st := s_Store_numbers) l_Store_numbers c_Store_numbers k_Store_numbers,
    m_Store_numbers := ⟨a_Store_numbers, fn_Store_numbers, k_Store_numbers⟩,
    b_Store_numbers := (fun_mk (st := s_Store_numbers) l_Store_numbers c_Store_numbers k_Store_numbers).binds (ps := ["self"]) fun _ _ _ _ _ _ us hl => match us, hl with | [_], _ => rfl,
    f_Store_free_number := fStore_free_number, fd_Store_free_number := _, F_Store_free_number := fun_mk (st := s_Store_free_number) l_Store_free_number c_Store_free_number k_Store_free_number,
    m_Store_free_number := ⟨a_Store_free_number, fn_Store_free_number, k_Store_free_number⟩,
    b_Store_free_number := (fun_mk (st := s_Store_free_number) l_Store_free_number c_Store_free_number k_Store_free_number).binds (ps := ["self"]) fun _ _ _ _ _ _ us hl => match us, hl with | [_], _ => rfl,
    f_Store_allocate := fStore_allocate, fd_Store_allocate := _, F_Store_allocate := fun_mk (st := s_Store_allocate) l_Store_allocate c_Store_allocate k_Store_allocate,
    m_Store_allocate := ⟨a_Store_allocate, fn_Store_allocate, k_Store_allocate⟩,
    b_Store_allocate := (fun_mk (st := s_Store_allocate) l_Store_allocate c_Store_allocate k_Store_allocate).binds (ps := ["self", "kind", "size"]) fun _ _ _ _ _ _ us hl => match us, hl with | [_, _, _], _ => rfl,
    f_Store_size := fStore_size, fd_Store_size := _, F_Store_size := fun_mk (st := s_Store_size) l_Store_size c_Store_size k_Store_size,
    m_Store_size := ⟨a_Store_size, fn_Store_size, k_Store_size⟩,
    b_Store_size := (fun_mk (st := s_Store_size) l_Store_size c_Store_size k_Store_size).binds (ps := ["self", "number"]) fun _ _ _ _ _ _ us hl => match us, hl with | [_, _], _ => rfl,
    f_Store_kind := fStore_kind, fd_Store_kind := _, F_Store_kind := fun_mk (st := s_Store_kind) l_Store_kind c_Store_kind k_Store_kind,
    m_Store_kind := ⟨a_Store_kind, fn_Store_kind, k_Store_kind⟩,
    b_Store_kind := (fun_mk (st := s_Store_kind) l_Store_kind c_Store_kind k_Store_kind).binds (ps := ["self", "number"]) fun _ _ _ _ _ _ us hl => match us, hl with | [_, _], _ => rfl,
    f_Store_put := fStore_put, fd_Store_put := _, F_Store_put := fun_mk (st := s_Store_put) l_Store_put c_Store_put k_Store_put,
    m_Store_put := ⟨a_Store_put, fn_Store_put, k_Store_put⟩,
    b_Store_put := (fun_mk (st := s_Store_put) l_Store_put c_Store_put k_Store_put).binds (ps := ["self", "number", "at", "word"]) fun _ _ _ _ _ _ us hl => match us, hl with | [_, _, _, _], _ => rfl,
    f_Store_slots := fStore_slots, fd_Store_slots := _, F_Store_slots := fun_mk (st := s_Store_slots) l_Store_slots c_Store_slots k_Store_slots,
    m_Store_slots := ⟨a_Store_slots, fn_Store_slots, k_Store_slots⟩,
    b_Store_slots := (fun_mk (st := s_Store_slots) l_Store_slots c_Store_slots k_Store_slots).binds (ps := ["self", "number"]) fun _ _ _ _ _ _ us hl => match us, hl with | [_, _], _ => rfl,
    f_Store_drop := fStore_drop, fd_Store_drop := _, F_Store_drop := fun_mk (st := s_Store_drop) l_Store_drop c_Store_drop k_Store_drop,
    m_Store_drop := ⟨a_Store_drop, fn_Store_drop, k_Store_drop⟩,
    b_Store_drop := (fun_mk (st := s_Store_drop) l_Store_drop c_Store_drop k_Store_drop).binds (ps := ["self", "number"]) fun _ _ _ _ _ _ us hl => match us, hl with | [_, _], _ => rfl,
    f_Store_close_up := fStore_close_up, fd_Store_close_up := _, F_Store_close_up := fun_mk (st := s_Store_close_up) l_Store_close_up c_Store_close_up k_Store_close_up, cA_Store_close_up := cAStore_close_up, PT_Store_close_up := PTStore_close_up, hd_Store_close_up := x3_Store_close_up, np_Store_close_up := x4_Store_close_up, G_Store_close_up := ⟨_, _, _, _, _, _, _, _, rfl, l_Store_close_up, c_Store_close_up⟩,
    m_Store_close_up := ⟨a_Store_close_up, fn_Store_close_up, k_Store_close_up⟩,
    b_Store_close_up := (fun_mk (st := s_Store_close_up) l_Store_close_up c_Store_close_up k_Store_close_up).binds (ps := ["self"]) fun _ _ _ _ _ _ us hl => match us, hl with | [_], _ => rfl,
    f_Store_exchange := fStore_exchange, fd_Store_exchange := _, F_Store_exchange := fun_mk (st := s_Store_exchange) l_Store_exchange c_Store_exchange k_Store_exchange,
    m_Store_exchange := ⟨a_Store_exchange, fn_Store_exchange, k_Store_exchange⟩,
    b_Store_exchange := (fun_mk (st := s_Store_exchange) l_Store_exchange c_Store_exchange k_Store_exchange).binds (ps := ["self", "first", "second"]) fun _ _ _ _ _ _ us hl => match us, hl with | [_, _, _], _ => rfl,
    f_Space___init__ := fSpace___init__, fd_Space___init__ := _, F_Space___init__ := fun_mk (st := s_Space___init__) l_Space___init__ c_Space___init__ k_Space___init__,
    M_Space := ⟨mk_Space, a_Space___init__, fn_Space___init__, kp_Space⟩,
    b_Space___init__ := (fun_mk (st := s_Space___init__) l_Space___init__ c_Space___init__ k_Space___init__).binds (ps := ["self", "room", "entries"]) fun _ _ _ _ _ _ us hl => match us, hl with | [_, _, _], _ => rfl,
    f_Space_set_root := fSpace_set_root, fd_Space_set_root := _, F_Space_set_root := fun_mk (st := s_Space_set_root) l_Space_set_root c_Space_set_root k_Space_set_root,
    m_Space_set_root := ⟨a_Space_set_root, fn_Space_set_root, k_Space_set_root⟩,
    b_Space_set_root := (fun_mk (st := s_Space_set_root) l_Space_set_root c_Space_set_root k_Space_set_root).binds (ps := ["self", "k", "word"]) fun _ _ _ _ _ _ us hl => match us, hl with | [_, _, _], _ => rfl,
    f_Space_hold := fSpace_hold, fd_Space_hold := _, F_Space_hold := fun_mk (st := s_Space_hold) l_Space_hold c_Space_hold k_Space_hold,
    m_Space_hold := ⟨a_Space_hold, fn_Space_hold, k_Space_hold⟩,
    b_Space_hold := (fun_mk (st := s_Space_hold) l_Space_hold c_Space_hold k_Space_hold).binds (ps := ["self", "word"]) fun _ _ _ _ _ _ us hl => match us, hl with | [_, _], _ => rfl,
    f_Space_all_roots := fSpace_all_roots, fd_Space_all_roots := _, F_Space_all_roots := fun_mk (st := s_Space_all_roots) l_Space_all_roots c_Space_all_roots k_Space_all_roots,
    m_Space_all_roots := ⟨a_Space_all_roots, fn_Space_all_roots, k_Space_all_roots⟩,
    b_Space_all_roots := (fun_mk (st := s_Space_all_roots) l_Space_all_roots c_Space_all_roots k_Space_all_roots).binds (ps := ["self"]) fun _ _ _ _ _ _ us hl => match us, hl with | [_], _ => rfl,
    f_Space_collect := fSpace_collect, fd_Space_collect := _, F_Space_collect := fun_mk (st := s_Space_collect) l_Space_collect c_Space_collect k_Space_collect,
    m_Space_collect := ⟨a_Space_collect, fn_Space_collect, k_Space_collect⟩,
    b_Space_collect := (fun_mk (st := s_Space_collect) l_Space_collect c_Space_collect k_Space_collect).binds (ps := ["self"]) fun _ _ _ _ _ _ us hl => match us, hl with | [_], _ => rfl,
    f_Space_collect_with := fSpace_collect_with, fd_Space_collect_with := _, F_Space_collect_with := fun_mk (st := s_Space_collect_with) l_Space_collect_with c_Space_collect_with k_Space_collect_with,
    m_Space_collect_with := ⟨a_Space_collect_with, fn_Space_collect_with, k_Space_collect_with⟩,
    b_Space_collect_with := (fun_mk (st := s_Space_collect_with) l_Space_collect_with c_Space_collect_with k_Space_collect_with).binds (ps := ["self", "word"]) fun _ _ _ _ _ _ us hl => match us, hl with | [_, _], _ => rfl,
    f_Space_new := fSpace_new, fd_Space_new := _, F_Space_new := fun_mk (st := s_Space_new) l_Space_new c_Space_new k_Space_new,
    m_Space_new := ⟨a_Space_new, fn_Space_new, k_Space_new⟩,
    b_Space_new := (fun_mk (st := s_Space_new) l_Space_new c_Space_new k_Space_new).binds (ps := ["self", "kind", "size"]) fun _ _ _ _ _ _ us hl => match us, hl with | [_, _, _], _ => rfl,
    f_Space_fitted := fSpace_fitted, fd_Space_fitted := _, F_Space_fitted := fun_mk (st := s_Space_fitted) l_Space_fitted c_Space_fitted k_Space_fitted,
    m_Space_fitted := ⟨a_Space_fitted, fn_Space_fitted, k_Space_fitted⟩,
    b_Space_fitted := (fun_mk (st := s_Space_fitted) l_Space_fitted c_Space_fitted k_Space_fitted).binds (ps := ["self", "kind", "size"]) fun _ _ _ _ _ _ us hl => match us, hl with | [_, _, _], _ => rfl,
    f__law_number := f_law_number, fd__law_number := _, F__law_number := fun_mk (st := s__law_number) l__law_number c__law_number k__law_number,
    g__law_number := PySem.W.mg_of X G a__law_number,
    b__law_number := (fun_mk (st := s__law_number) l__law_number c__law_number k__law_number).binds (ps := ["_law_cell", "_law_k"]) fun _ _ _ _ _ _ us hl => match us, hl with | [_, _], _ => rfl,
    f__law_word := f_law_word, fd__law_word := _, F__law_word := fun_mk (st := s__law_word) l__law_word c__law_word k__law_word,
    g__law_word := PySem.W.mg_of X G a__law_word,
    b__law_word := (fun_mk (st := s__law_word) l__law_word c__law_word k__law_word).binds (ps := ["_law_x", "_law_many"]) fun _ _ _ _ _ _ us hl => match us, hl with | [_, _], _ => rfl,
    f__law_is := f_law_is, fd__law_is := _, F__law_is := fun_mk (st := s__law_is) l__law_is c__law_is k__law_is,
    g__law_is := PySem.W.mg_of X G a__law_is,
    b__law_is := (fun_mk (st := s__law_is) l__law_is c__law_is k__law_is).binds (ps := ["_law_actual", "_law_due"]) fun _ _ _ _ _ _ us hl => match us, hl with | [_, _], _ => rfl,
    f__law_same := f_law_same, fd__law_same := _, F__law_same := fun_mk (st := s__law_same) l__law_same c__law_same k__law_same,
    g__law_same := PySem.W.mg_of X G a__law_same,
    b__law_same := (fun_mk (st := s__law_same) l__law_same c__law_same k__law_same).binds (ps := ["_law_actual", "_law_due"]) fun _ _ _ _ _ _ us hl => match us, hl with | [_, _], _ => rfl,
    f__law_sizes := f_law_sizes, fd__law_sizes := _, F__law_sizes := fun_mk (st := s__law_sizes) l__law_sizes c__law_sizes k__law_sizes,
    g__law_sizes := PySem.W.mg_of X G a__law_sizes,
    b__law_sizes := (fun_mk (st := s__law_sizes) l__law_sizes c__law_sizes k__law_sizes).binds (ps := ["_law_x"]) fun _ _ _ _ _ _ us hl => match us, hl with | [_], _ => rfl,
    f__law_rows := f_law_rows, fd__law_rows := _, F__law_rows := fun_mk (st := s__law_rows) l__law_rows c__law_rows k__law_rows,
    g__law_rows := PySem.W.mg_of X G a__law_rows,
    b__law_rows := (fun_mk (st := s__law_rows) l__law_rows c__law_rows k__law_rows).binds (ps := ["_law_sizes_here", "_law_x"]) fun _ _ _ _ _ _ us hl => match us, hl with | [_, _], _ => rfl,
    f__law_roots := f_law_roots, fd__law_roots := _, F__law_roots := fun_mk (st := s__law_roots) l__law_roots c__law_roots k__law_roots,
    g__law_roots := PySem.W.mg_of X G a__law_roots,
    b__law_roots := (fun_mk (st := s__law_roots) l__law_roots c__law_roots k__law_roots).binds (ps := ["_law_many", "_law_x"]) fun _ _ _ _ _ _ us hl => match us, hl with | [_, _], _ => rfl,
    f__law_space := f_law_space, fd__law_space := _, F__law_space := fun_mk (st := s__law_space) l__law_space c__law_space k__law_space,
    g__law_space := PySem.W.mg_of X G a__law_space,
    b__law_space := (fun_mk (st := s__law_space) l__law_space c__law_space k__law_space).binds (ps := ["_law_rows_here", "_law_words"]) fun _ _ _ _ _ _ us hl => match us, hl with | [_, _], _ => rfl,
    f__law_walk := f_law_walk, fd__law_walk := _, F__law_walk := fun_mk (st := s__law_walk) l__law_walk c__law_walk k__law_walk,
    g__law_walk := PySem.W.mg_of X G a__law_walk,
    b__law_walk := (fun_mk (st := s__law_walk) l__law_walk c__law_walk k__law_walk).binds (ps := ["_law_rows_here", "_law_words", "_law_path"]) fun _ _ _ _ _ _ us hl => match us, hl with | [_, _, _], _ => rfl,
    f__law_extended := f_law_extended, fd__law_extended := _, F__law_extended := fun_mk (st := s__law_extended) l__law_extended c__law_extended k__law_extended,
    g__law_extended := PySem.W.mg_of X G a__law_extended,
    b__law_extended := (fun_mk (st := s__law_extended) l__law_extended c__law_extended k__law_extended).binds (ps := ["_law_rows_here", "_law_found", "_law_paths_here"]) fun _ _ _ _ _ _ us hl => match us, hl with | [_, _, _], _ => rfl,
    f__law_best := f_law_best, fd__law_best := _, F__law_best := fun_mk (st := s__law_best) l__law_best c__law_best k__law_best,
    g__law_best := PySem.W.mg_of X G a__law_best,
    b__law_best := (fun_mk (st := s__law_best) l__law_best c__law_best k__law_best).binds (ps := ["_law_rows_here", "_law_words"]) fun _ _ _ _ _ _ us hl => match us, hl with | [_, _], _ => rfl,
    f__law_path_is := f_law_path_is, fd__law_path_is := _, F__law_path_is := fun_mk (st := s__law_path_is) l__law_path_is c__law_path_is k__law_path_is,
    g__law_path_is := PySem.W.mg_of X G a__law_path_is,
    b__law_path_is := (fun_mk (st := s__law_path_is) l__law_path_is c__law_path_is k__law_path_is).binds (ps := ["_law_told_here", "_law_due"]) fun _ _ _ _ _ _ us hl => match us, hl with | [_, _], _ => rfl,
    f__law_told := f_law_told, fd__law_told := _, F__law_told := fun_mk (st := s__law_told) l__law_told c__law_told k__law_told,
    g__law_told := PySem.W.mg_of X G a__law_told,
    b__law_told := (fun_mk (st := s__law_told) l__law_told c__law_told k__law_told).binds (ps := ["_law_space_here", "_law_rows_here", "_law_words", "_law_path"]) fun _ _ _ _ _ _ us hl => match us, hl with | [_, _, _, _], _ => rfl,
    f__law_drawn := f_law_drawn, fd__law_drawn := _, F__law_drawn := fun_mk (st := s__law_drawn) l__law_drawn c__law_drawn k__law_drawn,
    g__law_drawn := PySem.W.mg_of X G a__law_drawn,
    b__law_drawn := (fun_mk (st := s__law_drawn) l__law_drawn c__law_drawn k__law_drawn).binds (ps := ["_law_x", "_law_rows_here", "_law_words"]) fun _ _ _ _ _ _ us hl => match us, hl with | [_, _, _], _ => rfl,
    f__law_kept := f_law_kept, fd__law_kept := _, F__law_kept := fun_mk (st := s__law_kept) l__law_kept c__law_kept k__law_kept,
    g__law_kept := PySem.W.mg_of X G a__law_kept,
    b__law_kept := (fun_mk (st := s__law_kept) l__law_kept c__law_kept k__law_kept).binds (ps := ["_law_space_here", "_law_rows_here", "_law_words"]) fun _ _ _ _ _ _ us hl => match us, hl with | [_, _, _], _ => rfl,
    f_law := flaw, fd_law := _, F_law := fun_mk (st := s_law) l_law c_law k_law,
    g_law := PySem.W.mg_of X G a_law,
    b_law := (fun_mk (st := s_law) l_law c_law k_law).binds (ps := ["_law_script"]) fun _ _ _ _ _ _ us hl => match us, hl with | [_], _ => rfl,
    g_collect_collecting := PySem.W.mg_of X G al_collect_collecting }

structure WT (P : Program) (K : PySem.W.Frag) (mg : Str → Option Value) (base : Heap) extends Wd P K mg where
  TB : LamX.TabB base mg cA_Store_close_up PT_Store_close_up
abbrev qLam : Str := (envOfC "Store.close_up" (defScope s_Store_close_up) 0 0 .none).qual ++ "<lambda>"
section
variable {P : Program} {w : World} {K : PySem.W.Frag} {mg : Str → Option Value} {base : Heap}
end

end LX
namespace LX
open PySem PySem.Spec PyProof.Rows L2 NdefX
section
variable {P : Program} {w : World} {K : PySem.W.Frag} {mg : Str → Option Value} {base : Heap}
def sF (room entries : Int) (wl pl : Addr) (least : Int) : List (Str × V) := [("room", .int room), ("entries", .int entries), ("words", .ref wl), ("_places", .ref pl), ("_least", .int least)]
structure StoreAt (H : Hp) (C st dx wl pl : Addr) (room entries least : Int) (ws : List Int) (kvs : List (Key × V)) : Prop where
  st : H st = some (.ins C dx (sF room entries wl pl least))
  wl : H wl = some (.lst (ws.map V.int))
  pl : H pl = some (.dK kvs)
theorem int_at {ws : List Int} {i : Nat} {z : Int} (h : ws[i]? = some z) : (ws.map V.int)[i]? = some (V.int z) := by rw [List.getElem?_map, h]; rfl
theorem ixN_nat {n i : Nat} (h : i < n) : ixN n (i : Int) = some i := by
  unfold ixN
  rw [if_pos (by omega), if_pos (by omega)]
  simp
def sp_exists : Addr → Sp := fun C vs H Q _ => ∃ st dx wl pl room entries least ws kvs n, vs = [.ref st, .int n] ∧ StoreAt H C st dx wl pl room entries least ws kvs ∧ Q (.bl (valV kvs (.inl n)).isSome) H
theorem ok_Store_exists (W : WT P K mg base) : FnOk P w K mg base CX0 1 W.f_Store_exists W.fd_Store_exists ["self", "number"] (sp_exists W.c_Store) := by
  refine W.F_Store_exists.ok sc_Store_exists (fun vs H Q E h => ?_) (fun cdv A outer s H vs Q E hr h => ?_)
  · obtain ⟨st, dx, wl, pl, room, entries, least, ws, kvs, n, rfl, _⟩ := h
    rfl
  · obtain ⟨st, dx, wl, pl, room, entries, least, ws, kvs, n, rfl, S, k⟩ := h
    have hu1 := hu_of hr
    have hu64 := hu64_of hr
    refine ⟨_, (pss_one (ps_ret (pe_cmpR (op_inU hu1) (pv 1) (pe_fld (pv 0) rfl) (by first | exact nomark _ | rfl)))), ?_⟩
    refine ⟨_, rfl, _, rfl, st, _, dx, _, _, rfl, S.st, W.C_Store, W.na_Store__places, rfl, ?_⟩
    exact Or.inr ⟨_, DGet.k (k := Sum.inl n) S.pl, k⟩
def sp_size : Addr → Sp := fun C vs H Q _ => ∃ st dx wl pl room entries least ws kvs n, ∃ (p : Nat) (z : Int), vs = [.ref st, .int n] ∧ StoreAt H C st dx wl pl room entries least ws kvs ∧ valV kvs (.inl n) = some (.int (p : Int)) ∧ ws[p + 1]? = some z ∧ Q (.int z) H
theorem ok_Store_size (W : WT P K mg base) : FnOk P w K mg base CX0 1 W.f_Store_size W.fd_Store_size ["self", "number"] (sp_size W.c_Store) := by
  refine W.F_Store_size.ok sc_Store_size (fun vs H Q E h => ?_) (fun cdv A outer s H vs Q E hr h => ?_)
  · obtain ⟨st, dx, wl, pl, room, entries, least, ws, kvs, n, p, z, rfl, _⟩ := h
    rfl
  · obtain ⟨st, dx, wl, pl, room, entries, least, ws, kvs, n, p, z, rfl, S, hp, hz, k⟩ := h
    have hu1 := hu_of hr
    have hu64 := hu64_of hr
    refine ⟨_, (pss_one (ps_ret (pe_ix (ix_U hu1) (pe_fld (pv 0) rfl) (pe_op op_addU (pe_ix (ix_U hu1) (pe_fld (pv 0) rfl) (pv 1) (fun _ _ => rfl)) pe_int) (fun _ _ => rfl)))), ?_⟩
    refine ⟨_, rfl, st, _, dx, _, _, rfl, S.st, W.C_Store, W.na_Store_words, rfl, ?_⟩
    refine ⟨_, rfl, st, _, dx, _, _, rfl, S.st, W.C_Store, W.na_Store__places, rfl, ?_⟩
    refine ⟨_, rfl, Or.inr ⟨_, by rw [← hp]; exact DGet.k (k := Sum.inl n) S.pl, ?_⟩⟩
    exact Or.inl ⟨_, _, _, rfl, Or.inl (SqL.of S.wl), atI_nat (j := p + 1) (int_at hz), k⟩
def sp_kind : Addr → Sp := fun C vs H Q _ => ∃ st dx wl pl room entries least ws kvs n, ∃ (p : Nat) (z : Int), vs = [.ref st, .int n] ∧ StoreAt H C st dx wl pl room entries least ws kvs ∧ valV kvs (.inl n) = some (.int (p : Int)) ∧ ws[p + 2]? = some z ∧ Q (.int z) H
theorem ok_Store_kind (W : WT P K mg base) : FnOk P w K mg base CX0 1 W.f_Store_kind W.fd_Store_kind ["self", "number"] (sp_kind W.c_Store) := by
  refine W.F_Store_kind.ok sc_Store_kind (fun vs H Q E h => ?_) (fun cdv A outer s H vs Q E hr h => ?_)
  · obtain ⟨st, dx, wl, pl, room, entries, least, ws, kvs, n, p, z, rfl, _⟩ := h
    rfl
  · obtain ⟨st, dx, wl, pl, room, entries, least, ws, kvs, n, p, z, rfl, S, hp, hz, k⟩ := h
    have hu1 := hu_of hr
    have hu64 := hu64_of hr
    refine ⟨_, (pss_one (ps_ret (pe_ix (ix_U hu1) (pe_fld (pv 0) rfl) (pe_op op_addU (pe_ix (ix_U hu1) (pe_fld (pv 0) rfl) (pv 1) (fun _ _ => rfl)) pe_int) (fun _ _ => rfl)))), ?_⟩
    refine ⟨_, rfl, st, _, dx, _, _, rfl, S.st, W.C_Store, W.na_Store_words, rfl, ?_⟩
    refine ⟨_, rfl, st, _, dx, _, _, rfl, S.st, W.C_Store, W.na_Store__places, rfl, ?_⟩
    refine ⟨_, rfl, Or.inr ⟨_, by rw [← hp]; exact DGet.k (k := Sum.inl n) S.pl, ?_⟩⟩
    exact Or.inl ⟨_, _, _, rfl, Or.inl (SqL.of S.wl), atI_nat (j := p + 2) (int_at hz), k⟩
theorem set_int (ws : List Int) (i : Nat) (x : Int) : (ws.map V.int).set i (.int x) = (ws.set i x).map V.int := by rw [List.map_set]
def sp_put : Addr → Sp := fun C vs H Q _ => ∃ st dx wl pl room entries least ws kvs n, ∃ (p a : Nat) (x : Int), vs = [.ref st, .int n, .int (a : Int), .int x] ∧ StoreAt H C st dx wl pl room entries least ws kvs ∧ valV kvs (.inl n) = some (.int (p : Int)) ∧ p + 3 + a < ws.length ∧ Q .non (upd H wl (.lst ((ws.set (p + 3 + a) x).map V.int)))
theorem ok_Store_put (W : WT P K mg base) : FnOk P w K mg base CX0 1 W.f_Store_put W.fd_Store_put ["self", "number", "at", "word"] (sp_put W.c_Store) := by
  refine W.F_Store_put.ok sc_Store_put (fun vs H Q E h => ?_) (fun cdv A outer s H vs Q E hr h => ?_)
  · obtain ⟨st, dx, wl, pl, room, entries, least, ws, kvs, n, p, a, z, rfl, _⟩ := h
    rfl
  · obtain ⟨st, dx, wl, pl, room, entries, least, ws, kvs, n, p, a, z, rfl, S, hp, hz, k⟩ := h
    have hu1 := hu_of hr
    have hu64 := hu64_of hr
    refine ⟨_, (pss_one (ps_asg (pv 3) (pg_sub (pe_fld (pv 0) rfl) (pe_op op_addU (pe_op op_addU (pe_ix (ix_U hu1) (pe_fld (pv 0) rfl) (pv 1) (fun _ _ => rfl)) (pe_gi rfl W.g_HEADER)) (pv 2)) set_list))), ?_⟩
    refine ⟨_, rfl, ?_⟩
    refine ⟨_, rfl, st, _, dx, _, _, rfl, S.st, W.C_Store, W.na_Store_words, rfl, ?_⟩
    refine ⟨_, rfl, st, _, dx, _, _, rfl, S.st, W.C_Store, W.na_Store__places, rfl, ?_⟩
    refine ⟨_, rfl, Or.inr ⟨_, by rw [← hp]; exact DGet.k (k := Sum.inl n) S.pl, ?_⟩⟩
    refine ⟨_, rfl, ?_⟩
    refine ⟨wl, _, _, p + 3 + a, rfl, rfl, S.wl, ixN_nat (i := p + 3 + a) (by rw [List.length_map]; exact hz), ?_⟩
    rw [set_int]
    exact k
def seg (ws : List Int) (p n : Nat) : List Int := (ws.drop p).take n
theorem cut_seg {ws : List Int} {p n : Nat} (h : p + n ≤ ws.length) : cutV (ws.map V.int) (some (p : Int)) (some ((p : Int) + (n : Int))) = (seg ws p n).map V.int := by
  unfold cutV seg
  have h1 : HT.sIx (ws.map V.int).length 0 (some (p : Int)) = p := by rw [HT.sIx_nat, List.length_map]; omega
  have h2 : HT.sIx (ws.map V.int).length (ws.map V.int).length (some ((p : Int) + (n : Int))) = p + n := by
    have := HT.sIx_nat (ws.map V.int).length (ws.map V.int).length (p + n)
    rw [show ((p + n : Nat) : Int) = (p : Int) + (n : Int) by omega] at this
    rw [this, List.length_map]
    omega
  rw [h1, h2, List.map_take, List.map_drop, show p + n - p = n by omega]
def sp_slots : Addr → Sp := fun C vs H Q _ => ∃ st dx wl pl room entries least ws kvs n, ∃ (p z : Nat), vs = [.ref st, .int n] ∧ StoreAt H C st dx wl pl room entries least ws kvs ∧ valV kvs (.inl n) = some (.int (p : Int)) ∧ ws[p + 1]? = some (z : Int) ∧ p + 3 + z ≤ ws.length ∧
  ∀ q, H q = none → Q (.ref q) (upd H q (.lst ((seg ws (p + 3) z).map V.int)))
theorem ok_Store_slots (W : WT P K mg base) : FnOk P w K mg base CX0 2 W.f_Store_slots W.fd_Store_slots ["self", "number"] (sp_slots W.c_Store) := by
  refine W.F_Store_slots.ok sc_Store_slots (fun vs H Q E h => ?_) (fun cdv A outer s H vs Q E hr h => ?_)
  · obtain ⟨st, dx, wl, pl, room, entries, least, ws, kvs, n, p, z, rfl, _⟩ := h
    rfl
  · obtain ⟨st, dx, wl, pl, room, entries, least, ws, kvs, n, p, z, rfl, S, hp, hz, hl, k⟩ := h
    have hu1 := hu_of hr
    have hu64 := hu64_of hr
    refine ⟨_, (pss_cons (ps_set (i := 2) sc_Store_slots.nd rfl (by first | exact Or.inl rfl | exact Or.inr rfl) (pe_op op_addU (pe_ix (ix_U hu1) (pe_fld (pv 0) rfl) (pv 1) (fun _ _ => rfl)) (pe_gi rfl W.g_HEADER)))
      (pss_one (ps_ret (pe_slice sl_U (pe_fld (pv 0) rfl) (po_some (pv 2)) (po_some (pe_op op_addU (pv 2) (pe_meth (pv 0) W.C_Store W.m_Store_size (ok_Store_size W) (hr.mono (by decide)) W.b_Store_size .nil pass0 (pa_cons (pv 1) pa_nil)))))))), ?_⟩
    refine ⟨_, rfl, st, _, dx, _, _, rfl, S.st, W.C_Store, W.na_Store__places, rfl, ?_⟩
    refine ⟨_, rfl, Or.inr ⟨_, by rw [← hp]; exact DGet.k (k := Sum.inl n) S.pl, ?_⟩⟩
    refine ⟨_, rfl, st, _, dx, _, _, rfl, S.st, W.C_Store, W.na_Store_words, rfl, ?_⟩
    refine ⟨_, rfl, _, rfl, ?_⟩
    refine ⟨_, rfl, ?_⟩
    refine ⟨_, rfl, st, dx, _, rfl, S.st, rfl, ?_⟩
    refine ⟨_, rfl, ?_⟩
    refine ⟨st, dx, wl, pl, room, entries, least, ws, kvs, n, p, z, rfl, S, hp, hz, ?_⟩
    refine ⟨_, rfl, ?_⟩
    refine Or.inl ⟨wl, _, rfl, SqL.of S.wl, fun q hq => ?_⟩
    have e : cutV (ws.map V.int) (some ((p : Int) + 3)) (some ((p : Int) + 3 + (z : Int))) = (seg ws (p + 3) z).map V.int := cut_seg (p := p + 3) hl
    rw [e]
    exact k q hq
def sp_numbers : Addr → Sp := fun C vs H Q _ => ∃ st dx wl pl room entries least ws kvs, ∃ ns : List Int, vs = [.ref st] ∧ StoreAt H C st dx wl pl room entries least ws kvs ∧ kvs.map (·.1) = ns.map Sum.inl ∧
  ∀ (ns' : List Int) (p : Addr), ns'.Perm ns → ns'.Pairwise (· ≤ ·) → H p = none → Q (.ref p) (upd H p (.lst (ns'.map V.int)))
theorem ok_Store_numbers (W : WT P K mg base) : FnOk P w K mg base CX0 1 W.f_Store_numbers W.fd_Store_numbers ["self"] (sp_numbers W.c_Store) := by
  refine W.F_Store_numbers.ok sc_Store_numbers (fun vs H Q E h => ?_) (fun cdv A outer s H vs Q E hr h => ?_)
  · obtain ⟨st, dx, wl, pl, room, entries, least, ws, kvs, ns, rfl, _⟩ := h
    rfl
  · obtain ⟨st, dx, wl, pl, room, entries, least, ws, kvs, ns, rfl, S, hk, k⟩ := h
    have hu1 := hu_of hr
    have hu64 := hu64_of hr
    refine ⟨_, (pss_one (ps_ret (pe_callB (call_sortedU rfl) (by rfl) W.n_sorted bb_sorted (pa_cons (pe_fld (pv 0) rfl) pa_nil)))), ?_⟩
    refine ⟨_, rfl, st, _, dx, _, _, rfl, S.st, W.C_Store, W.na_Store__places, rfl, ?_⟩
    exact ⟨_, _, rfl, Or.inr ⟨kvs, Rd.of S.pl, hk⟩, k⟩
def sp_drop : Addr → Sp := fun C vs H Q _ => ∃ st dx wl pl room entries least ws kvs n, vs = [.ref st, .int n] ∧ StoreAt H C st dx wl pl room entries least ws kvs ∧ (valV kvs (.inl n)).isSome = true ∧
  ∀ H', StoreAt H' C st dx wl pl room entries (if n < least then n else least) ws (dropK kvs (.inl n)) → (∀ b, b ≠ st → b ≠ pl → H' b = H b) → Q .non H'
theorem ok_Store_drop (W : WT P K mg base) : FnOk P w K mg base CX0 1 W.f_Store_drop W.fd_Store_drop ["self", "number"] (sp_drop W.c_Store) := by
  refine W.F_Store_drop.ok sc_Store_drop (fun vs H Q E h => ?_) (fun cdv A outer s H vs Q E hr h => ?_)
  · obtain ⟨st, dx, wl, pl, room, entries, least, ws, kvs, ns, rfl, _⟩ := h
    rfl
  · obtain ⟨st, dx, wl, pl, room, entries, least, ws, kvs, n, rfl, S, hk, k⟩ := h
    have hu1 := hu_of hr
    have hu64 := hu64_of hr
    have n1 : st ≠ pl := ne_of S.st S.pl (by intro z; cases z)
    have n2 : wl ≠ pl := ne_of S.wl S.pl (by intro z; cases z)
    have n3 : st ≠ wl := ne_of S.st S.wl (by intro z; cases z)
    refine ⟨_, (pss_cons (ps_ddel (pe_fld (pv 0) rfl) (pv 1))
      (pss_one (ps_fld (pv 0) (pe_callB (call_min2 rfl) (by rfl) W.n_min bb_min (pa_cons (pe_fld (pv 0) rfl) (pa_cons (pv 1) pa_nil))) rfl))), ?_⟩
    refine ⟨_, rfl, st, _, dx, _, _, rfl, S.st, W.C_Store, W.na_Store__places, rfl, ?_⟩
    refine ⟨_, rfl, pl, _, .inl n, rfl, S.pl, rfl, hk, ?_⟩
    have h2 : upd H pl (.dK (dropK kvs (.inl n))) st = some (.ins W.c_Store dx (sF room entries wl pl least)) := by rw [upd_ne n1]; exact S.st
    refine ⟨_, rfl, st, _, dx, _, _, rfl, h2, W.C_Store, W.na_Store__least, rfl, ?_⟩
    refine ⟨_, rfl, _, _, rfl, ?_⟩
    refine ⟨_, rfl, st, _, dx, _, rfl, h2, W.C_Store, W.na_Store__least, (by show 5 < 1000; decide), ?_⟩
    refine k _ ⟨upd_same, ?_, ?_⟩ (fun b b1 b2 => ?_)
    · rw [upd_ne n3.symm, upd_ne n2]; exact S.wl
    · rw [upd_ne n1.symm]; exact upd_same
    · rw [upd_ne b1, upd_ne b2]
def sp_init : Addr → Sp := fun C vs H Q _ => ∃ st dx room entries, vs = [.ref st, .int room, .int entries] ∧ H st = some (.ins C dx []) ∧
  ∀ H' wl pl, StoreAt H' C st dx wl pl room entries 0 [] [] → (∀ b o, H b = some o → b ≠ st → H' b = some o) → H wl = none → H pl = none → Q .non H'
theorem ok_Store___init__ (W : WT P K mg base) : FnOk P w K mg base CX0 1 W.f_Store___init__ W.fd_Store___init__ ["self", "room", "entries"] (sp_init W.c_Store) := by
  refine W.F_Store___init__.ok sc_Store___init__ (fun vs H Q E h => ?_) (fun cdv A outer s H vs Q E hr h => ?_)
  · obtain ⟨st, dx, room, entries, rfl, _⟩ := h
    rfl
  · obtain ⟨st, dx, room, entries, rfl, S, k⟩ := h
    have hu1 := hu_of hr
    have hu64 := hu64_of hr
    refine ⟨_, (pss_cons (ps_fld (pv 0) (pv 1) rfl)
      (pss_cons (ps_fld (pv 0) (pv 2) rfl)
      (pss_cons (ps_fld (pv 0) (pe_lst pa_nil) rfl)
      (pss_cons (ps_fld (pv 0) pe_dnewK rfl)
      (pss_one (ps_fld (pv 0) pe_int rfl)))))), ?_⟩
    refine ⟨_, rfl, _, rfl, st, _, dx, _, rfl, S, W.C_Store, W.na_Store_room, (by decide), ?_⟩
    refine ⟨_, rfl, _, rfl, st, _, dx, _, rfl, upd_same, W.C_Store, W.na_Store_entries, (by show 1 < 1000; decide), ?_⟩
    rw [upd_upd]
    generalize e1 : upd H st (.ins W.c_Store dx (putF "entries" (.int entries) (putF "room" (.int room) []))) = H1
    have s1 : H1 st = some (.ins W.c_Store dx [("room", .int room), ("entries", .int entries)]) := by rw [← e1]; exact upd_same
    refine ⟨(by show 0 ≤ sizeLine; decide), fun wl hw => ?_⟩
    have nw : st ≠ wl := ne_of_none s1 hw
    have s2 : upd H1 wl (.lst []) st = some (.ins W.c_Store dx [("room", .int room), ("entries", .int entries)]) := by rw [upd_ne nw]; exact s1
    refine ⟨_, rfl, st, _, dx, _, rfl, s2, W.C_Store, W.na_Store_words, (by show 2 < 1000; decide), ?_⟩
    intro pl hp
    have np : st ≠ pl := ne_of_none upd_same hp
    have npw : wl ≠ pl := fun z => by subst z; rw [upd_ne nw.symm, upd_same] at hp; cases hp
    refine ⟨_, rfl, st, _, dx, _, rfl, (by rw [upd_ne np]; exact upd_same), W.C_Store, W.na_Store__places, (by show 3 < 1000; decide), ?_⟩
    refine ⟨_, rfl, st, _, dx, _, rfl, upd_same, W.C_Store, W.na_Store__least, (by show 4 < 1000; decide), ?_⟩
    rw [upd_upd]
    have hw0 : H wl = none := by rw [← e1, upd_ne nw.symm] at hw; exact hw
    have hp0 : H pl = none := by rw [upd_ne np.symm, upd_ne npw.symm, ← e1, upd_ne np.symm] at hp; exact hp
    refine k _ wl pl ⟨upd_same, ?_, ?_⟩ (fun b o e nb => ?_) hw0 hp0
    · rw [upd_ne nw.symm, upd_ne npw, upd_ne nw.symm]; exact upd_same
    · rw [upd_ne np.symm]; exact upd_same
    · rw [upd_ne nb, upd_ne (ne_of_none e hp0), upd_ne nb, upd_ne (ne_of_none e hw0), ← e1, upd_ne nb]; exact e
end

end LX
namespace LX
open PySem PySem.Spec PyProof.Rows L2 NdefX
section
variable {P : Program} {w : World} {K : PySem.W.Frag} {mg : Str → Option Value} {base : Heap}
def sp_is_ref : Sp := fun vs H Q _ => ∃ n : Int, vs = [.int n] ∧ Q (.bl (decide (n % 2 = 0))) H
theorem ok_is_ref (W : WT P K mg base) : FnOk P w K mg base CX0 1 W.f_is_ref W.fd_is_ref ["word"] sp_is_ref := by
  refine W.F_is_ref.ok sc_is_ref (fun vs H Q E h => ?_) (fun cdv A outer s H vs Q E hr h => ?_)
  · obtain ⟨n, rfl, _⟩ := h
    rfl
  · obtain ⟨n, rfl, k⟩ := h
    have hu1 := hu_of hr
    have hu64 := hu64_of hr
    refine ⟨_, (pss_one (ps_ret (pe_cmpR (op_eqU hu64) (pe_op op_mod (pv 0) pe_int) pe_int (by first | exact nomark _ | rfl)))), ?_⟩
    refine ⟨_, rfl, _, _, rfl, rfl, (by show (0 : Int) < 2; decide), rfl, ?_⟩
    show Q (.bl (decide (V.int (n % 2) = V.int 0))) H
    rw [I_dec]
    exact k
def sp_ref_of : Sp := fun vs H Q _ => ∃ n : Int, vs = [.int n] ∧ n % 2 = 0 ∧ Q (.int (n / 2)) H
theorem ok_ref_of (W : WT P K mg base) : FnOk P w K mg base CX0 2 W.f_ref_of W.fd_ref_of ["word"] sp_ref_of := by
  refine W.F_ref_of.ok sc_ref_of (fun vs H Q E h => ?_) (fun cdv A outer s H vs Q E hr h => ?_)
  · obtain ⟨n, rfl, _⟩ := h
    rfl
  · obtain ⟨n, rfl, hn, k⟩ := h
    have hu1 := hu_of hr
    have hu64 := hu64_of hr
    refine ⟨_, (pss_cons (ps_if (pt_not (pt_truth (pe_call (ok_is_ref W) (hr.mono (by decide)) rfl W.g_is_ref W.F_is_ref.kp W.b_is_ref .nil pass0 (pa_cons (pv 0) pa_nil)) (by intro _; rfl))) (pss_one ps_never) pss_nil)
      (pss_one (ps_ret (pe_op op_fdivW (pv 0) pe_int)))), ?_⟩
    refine ⟨_, rfl, n, rfl, _, rfl, ?_⟩
    refine iteND (fun h => absurd hn h) (fun _ => ?_)
    exact ⟨_, rfl, _, _, rfl, rfl, ⟨by decide, by decide⟩, k⟩
def sp_number : Sp := fun vs H Q _ => ∃ c k : Int, vs = [.int c, .int k] ∧ 0 ≤ k ∧ k ≤ 100000 ∧ ∀ r : Int, 0 ≤ r → Q (.int r) H
theorem ok__law_number (W : WT P K mg base) : FnOk P w K mg base CX0 1 W.f__law_number W.fd__law_number ["_law_cell", "_law_k"] sp_number := by
  refine W.F__law_number.ok sc__law_number (fun vs H Q E h => ?_) (fun cdv A outer s H vs Q E hr h => ?_)
  · obtain ⟨n, m, rfl, _⟩ := h
    rfl
  · obtain ⟨c, m, rfl, hm, hm2, k⟩ := h
    have hu1 := hu_of hr
    have hu64 := hu64_of hr
    refine ⟨_, (pss_cons (ps_if (pt_cmpR op_geU (pv 0) (pe_op op_pow pe_int pe_int) (by first | exact nomark _ | rfl)) (pss_one (ps_ret (pv 0))) pss_nil)
      (pss_cons (ps_set (i := 2) sc__law_number.nd rfl (by first | exact Or.inl rfl | exact Or.inr rfl) (pe_op op_mod (pe_callTy call_intU (by rfl) W.n_int bb_int (pa_cons (pe_op op_addU (pe_op op_addU (pe_op op_mulU (pv 0) pe_int) (pe_op op_mulU (pv 1) pe_int)) pe_int) pa_nil)) pe_int))
      (pss_one (ps_ret (pe_op op_mod (pe_callTy call_intU (by rfl) W.n_int bb_int (pa_cons (pe_op op_addU (pe_op op_mulU (pv 2) (pv 2)) (pe_op op_mulU (pv 1) pe_int)) pa_nil)) pe_int))))), ?_⟩
    refine ⟨_, rfl, _, _, rfl, rfl, ⟨by decide, by decide, by decide⟩, _, rfl, ?_⟩
    refine iteD (fun h => ?_) (fun h => ?_)
    · refine ⟨_, rfl, k _ ?_⟩
      have h : (10 : Int) ^ 18 ≤ c := h
      omega
    · refine ⟨_, rfl, Or.inr ⟨by decide, by decide⟩, ?_⟩
      refine ⟨_, rfl, Or.inr ⟨by decide, by decide⟩, ?_⟩
      refine ⟨_, _, rfl, rfl, (by show (0 : Int) < 2147483647; decide), ?_⟩
      have e1 := Int.emod_nonneg (c * 48271 + m * 69621 + 11) (by decide : (2147483647 : Int) ≠ 0)
      have e2 := Int.emod_lt_of_pos (c * 48271 + m * 69621 + 11) (by decide : (0 : Int) < 2147483647)
      generalize (c * 48271 + m * 69621 + 11) % 2147483647 = d at e1 e2 ⊢
      refine ⟨_, rfl, _, rfl, Or.inl ⟨by omega, by omega⟩, ?_⟩
      refine ⟨_, rfl, Or.inr ⟨by decide, by decide⟩, ?_⟩
      refine ⟨_, _, rfl, rfl, (by show (0 : Int) < 2147483399; decide), ?_⟩
      exact k _ (Int.emod_nonneg _ (by decide))
theorem divc (j : Int) (h0 : 0 < j) (h : j ≤ 100000000) : CDivW 0 j := ⟨h0, by
  have : j.natAbs.log2 ≤ j.natAbs := Nat.log2_le_self _
  have e : j.natAbs ≤ 100000000 := by omega
  have : j.natAbs.log2 < 27 := by
    by_cases z : j.natAbs = 0
    · omega
    · exact (Nat.log2_lt z).mpr (by omega)
  omega⟩
theorem divx {i j : Int} (h : CDivW 0 j) : CDivW i j := h
def sp_is : Sp := fun vs H Q _ => ∃ a b : Int, vs = [.int a, .int b] ∧ Q (.bl (decide (a = b))) H
theorem ok__law_is (W : WT P K mg base) : FnOk P w K mg base CX0 1 W.f__law_is W.fd__law_is ["_law_actual", "_law_due"] sp_is := by
  refine W.F__law_is.ok sc__law_is (fun vs H Q E h => ?_) (fun cdv A outer s H vs Q E hr h => ?_)
  · obtain ⟨n, m, rfl, _⟩ := h
    rfl
  · obtain ⟨a, b, rfl, k⟩ := h
    have hu1 := hu_of hr
    have hu64 := hu64_of hr
    refine ⟨_, (pss_one (ps_ret (pe_and (pe_callB call_isi (by rfl) W.n_isinstance bb_isinstance (pa_cons (pv 0) (pa_cons (pe_bt rfl W.n_int bb_int) pa_nil))) (pe_and (pe_notT (pe_callB call_isi (by rfl) W.n_isinstance bb_isinstance (pa_cons (pv 0) (pa_cons (pe_bt rfl W.n_bool bb_bool) pa_nil)))) (pe_one (pe_cmpR (op_eqU hu64) (pv 0) (pv 1) (by first | exact nomark _ | rfl))))))), ?_⟩
    refine ⟨_, rfl, ?_⟩
    refine ⟨_, _, _, _, _, rfl, ClsV.ty _, TyX.base (TyOf.int _), kt_int_int, ?_⟩
    refine ⟨_, rfl, ?_⟩
    refine iteT ?_
    refine ⟨_, rfl, ?_⟩
    refine ⟨_, _, _, _, _, rfl, ClsV.ty _, TyX.base (TyOf.int _), kt_int_bool, ?_⟩
    refine ⟨_, rfl, _, rfl, iteT ?_⟩
    refine ⟨_, rfl, _, rfl, rfl, ?_⟩
    show Q (.bl (decide (V.int a = V.int b))) H
    rw [I_dec]
    exact k
def IsI (H : Hp) (a : Addr) (ns : List Int) : Prop := H a = some (.lst (ns.map V.int))
def sp_same : Sp := fun vs H Q _ => ∃ a b ns, vs = [.ref a, .ref b] ∧ IsI H a ns ∧ IsI H b ns ∧ ns.length ≤ 100000 ∧ Q (.bl true) H
theorem ok__law_same (W : WT P K mg base) : FnOk P w K mg base CX0 2 W.f__law_same W.fd__law_same ["_law_actual", "_law_due"] sp_same := by
  refine W.F__law_same.ok sc__law_same (fun vs H Q E h => ?_) (fun cdv A outer s H vs Q E hr h => ?_)
  · obtain ⟨n, m, ns, rfl, _⟩ := h
    rfl
  · obtain ⟨a, b, ns, rfl, ha, hb, hl, k⟩ := h
    have hu1 := hu_of hr
    have hu64 := hu64_of hr
    refine ⟨_, (pss_cons (ps_if (PW.pt (pw_or (pt_not (pt_truth (pe_callB call_isi (by rfl) W.n_isinstance bb_isinstance (pa_cons (pv 0) (pa_cons (pe_bt rfl W.n_list bb_list) pa_nil))) (by intro _; rfl))) (pw_or1 (pt_cmpR (op_neU hu64) (pe_callB call_lenU (by rfl) W.n_len bb_len (pa_cons (pv 0) pa_nil)) (pe_callB call_lenU (by rfl) W.n_len bb_len (pa_cons (pv 1) pa_nil)) (by first | exact nomark _ | rfl))))) (pss_one (ps_ret pe_bl)) pss_nil)
      (pss_cons (ps_for PassesOwn.never rfl (pi_range1 (by rfl) W.n_range (pa_cons (pe_callB call_lenU (by rfl) W.n_len bb_len (pa_cons (pv 1) pa_nil)) pa_nil)) (pg_name (i := 2) sc__law_same.nd rfl (by first | exact Or.inl rfl | exact Or.inr rfl)) (pss_one (ps_if (pt_not (pt_truth (pe_call (ok__law_is W) (hr.mono (by decide)) rfl W.g__law_is W.F__law_is.kp W.b__law_is .nil pass0 (pa_cons (pe_ix (ix_U hu1) (pv 0) (pv 2) (fun _ _ => rfl)) (pa_cons (pe_ix (ix_U hu1) (pv 1) (pv 2) (fun _ _ => rfl)) pa_nil))) (by intro _; rfl))) (pss_one (ps_ret pe_bl)) pss_nil)))
      (pss_one (ps_ret pe_bl)))), ?_⟩
    refine ⟨_, rfl, ?_⟩
    refine ⟨_, _, _, _, _, rfl, ClsV.ty _, TyX.base (TyOf.lst ha), kt_list_list, ?_⟩
    refine ⟨_, rfl, iteF ?_⟩
    refine ⟨_, rfl, Or.inl ⟨_, Or.inl (SqL.of ha), ?_⟩⟩
    refine ⟨_, rfl, Or.inl ⟨_, Or.inl (SqL.of hb), ?_⟩⟩
    refine ⟨rfl, _, rfl, ?_⟩
    refine iteND (fun h => absurd rfl h) (fun _ => ?_)
    refine ⟨_, rfl, Or.inl ⟨_, Or.inl (SqL.of hb), ?_⟩⟩
    rw [List.length_map]
    refine ⟨_, rfl, by omega, by omega, for_range (lo := 0) (n := ns.length) (fun _ σ H' => (∃ v, σ = [some (.ref a), some (.ref b), v]) ∧ H' = H) ⟨⟨_, rfl⟩, rfl⟩ (fun i σ H' hi hI => ?_) (fun σ H' hI => ?_)⟩
    · obtain ⟨⟨v, rfl⟩, rfl⟩ := hI
      have hx := int_at (List.getElem?_eq_getElem hi)
      refine ⟨_, rfl, _, rfl, Or.inl ⟨_, _, _, rfl, Or.inl (SqL.of ha), by rw [Int.zero_add]; exact atI_nat hx, ?_⟩⟩
      refine ⟨_, rfl, _, rfl, Or.inl ⟨_, _, _, rfl, Or.inl (SqL.of hb), by rw [Int.zero_add]; exact atI_nat hx, ?_⟩⟩
      refine ⟨_, _, rfl, ?_⟩
      refine ⟨_, rfl, ?_⟩
      refine iteND (fun h => absurd rfl h) (fun _ => ?_)
      exact ⟨⟨_, rfl⟩, rfl⟩
    · obtain ⟨_, rfl⟩ := hI
      exact k
end

end LX
namespace LX
open PySem PySem.Spec PyProof.Rows L2 NdefX
section
variable {P : Program} {w : World} {K : PySem.W.Frag} {mg : Str → Option Value} {base : Heap}
theorem pig {α : Type} [DecidableEq α] (f : Nat → α) (hf : ∀ i j, f i = f j → i = j) : ∀ (m : Nat) (l : List α), (∀ n, n < m → f n ∈ l) → m ≤ l.length
  | 0, _, _ => Nat.zero_le _
  | m + 1, l, h => by
    have hm := h m (Nat.lt_succ_self m)
    have := pig f hf m (l.erase (f m)) fun n hn => (List.mem_erase_of_ne (fun e => by have := hf _ _ e; omega)).mpr (h n (by omega))
    have hl := List.length_erase_of_mem hm
    have : 0 < l.length := List.length_pos_of_mem hm
    omega
theorem val_mem {κ : Type} [DecidableEq κ] {kvs : List (κ × V)} {k : κ} {v : V} (h : valV kvs k = some v) : (k, v) ∈ kvs := by
  unfold valV at h
  obtain ⟨p, hp, e⟩ := Option.map_eq_some_iff.mp h
  have h1 := List.find?_some hp
  have h2 := List.mem_of_find?_eq_some hp
  have h1 : p.1 = k := of_decide_eq_true h1
  obtain ⟨a, b⟩ := p
  subst h1 e
  exact h2
def Seen (kvs : List (Key × V)) (m : Int) : Prop := 0 ≤ m ∧ ∀ n : Int, 0 ≤ n → n < m → (valV kvs (.inl n)).isSome = true
theorem Seen.le {kvs : List (Key × V)} {m : Int} (h : Seen kvs m) : m ≤ kvs.length := by
  have := pig (α := Key) (fun n => .inl (n : Int)) (fun i j e => by have := Sum.inl.inj e; omega) m.toNat (kvs.map (·.1)) fun n hn => by
    have z := h.2 n (by omega) (by have := h.1; omega)
    obtain ⟨v, hv⟩ := Option.isSome_iff_exists.mp z
    exact List.mem_map.mpr ⟨_, val_mem hv, rfl⟩
  rw [List.length_map] at this
  have := h.1
  omega
def sp_free : Addr → Sp := fun C vs H Q _ => ∃ st dx wl pl room entries least ws kvs, vs = [.ref st] ∧ StoreAt H C st dx wl pl room entries least ws kvs ∧ Seen kvs least ∧ (kvs.length : Int) < entries ∧
  ∀ m H', StoreAt H' C st dx wl pl room entries m ws kvs → (∀ b, b ≠ st → H' b = H b) → Seen kvs m → valV kvs (.inl m) = none → Q (.int m) H'
theorem ok_Store_free_number (W : WT P K mg base) : FnOk P w K mg base CX0 1 W.f_Store_free_number W.fd_Store_free_number ["self"] (sp_free W.c_Store) := by
  refine W.F_Store_free_number.ok sc_Store_free_number (fun vs H Q E h => ?_) (fun cdv A outer s H vs Q E hr h => ?_)
  · obtain ⟨st, dx, wl, pl, room, entries, least, ws, kvs, rfl, _⟩ := h
    rfl
  · obtain ⟨st, dx, wl, pl, room, entries, least, ws, kvs, rfl, S, hs, hl, k⟩ := h
    have hu1 := hu_of hr
    have hu64 := hu64_of hr
    refine ⟨_, (pss_cons (ps_while PassesOwn.never (pt_cmpR (op_inU hu1) (pe_fld (pv 0) rfl) (pe_fld (pv 0) rfl) (by first | exact nomark _ | rfl)) (pss_one (ps_fld (pv 0) (pe_op op_addU (pe_fld (pv 0) rfl) pe_int) rfl)))
      (pss_cons (ps_if (pt_cmpR op_geU (pe_fld (pv 0) rfl) (pe_fld (pv 0) rfl) (by first | exact nomark _ | rfl)) (pss_one ps_never) pss_nil)
      (pss_one (ps_ret (pe_fld (pv 0) rfl))))), ?_⟩
    refine ⟨fun n σ H' => ∃ m : Int, σ = [some (.ref st)] ∧ StoreAt H' W.c_Store st dx wl pl room entries m ws kvs ∧ (∀ b, b ≠ st → H' b = H b) ∧ Seen kvs m ∧ n = kvs.length - m.toNat, ⟨_, least, rfl, S, fun _ _ => rfl, hs, rfl⟩, ?_⟩
    rintro n σ H' ⟨m, rfl, S1, fr, hs1, rfl⟩
    refine ⟨_, rfl, st, _, dx, _, _, rfl, S1.st, W.C_Store, W.na_Store__least, rfl, ?_⟩
    refine ⟨_, rfl, st, _, dx, _, _, rfl, S1.st, W.C_Store, W.na_Store__places, rfl, ?_⟩
    refine Or.inr ⟨_, DGet.k (k := Sum.inl m) S1.pl, ?_⟩
    refine ⟨_, rfl, ?_⟩
    cases e : valV kvs (.inl m) with
    | some v =>
      refine iteT ?_
      refine ⟨_, fun _ _ z => z, ?_⟩
      refine ⟨_, rfl, st, _, dx, _, _, rfl, S1.st, W.C_Store, W.na_Store__least, rfl, ?_⟩
      refine ⟨_, rfl, st, _, dx, _, rfl, S1.st, W.C_Store, W.na_Store__least, (by show 5 < 1000; decide), ?_⟩
      have n1 : st ≠ pl := ne_of S1.st S1.pl (by intro z; cases z)
      have n3 : st ≠ wl := ne_of S1.st S1.wl (by intro z; cases z)
      have hs2 : Seen kvs (m + 1) := ⟨by have := hs1.1; omega, fun n h0 h1 => by
        by_cases q : n = m
        · subst q; rw [e]; rfl
        · exact hs1.2 n h0 (by omega)⟩
      have l2 := hs2.le
      have l1 := hs1.1
      refine ⟨kvs.length - (m + 1).toNat, by omega, m + 1, rfl, ⟨upd_same, ?_, ?_⟩, fun b hb => ?_, hs2, rfl⟩
      · rw [upd_ne n3.symm]; exact S1.wl
      · rw [upd_ne n1.symm]; exact S1.pl
      · rw [upd_ne hb]; exact fr b hb
    | none =>
      refine iteF ?_
      refine ⟨_, rfl, st, _, dx, _, _, rfl, S1.st, W.C_Store, W.na_Store__least, rfl, ?_⟩
      refine ⟨_, rfl, st, _, dx, _, _, rfl, S1.st, W.C_Store, W.na_Store_entries, rfl, ?_⟩
      refine ⟨_, rfl, ?_⟩
      refine iteD (fun h => ?_) (fun h => ?_)
      · have h : entries ≤ m := h
        have := hs1.le
        omega
      · refine ⟨_, rfl, st, _, dx, _, _, rfl, S1.st, W.C_Store, W.na_Store__least, rfl, ?_⟩
        exact k m H' S1 fr hs1 e
def sp_alloc : Addr → Sp := fun C vs H Q _ => ∃ st dx wl pl room entries least ws kvs, ∃ (x : Int) (z : Nat), vs = [.ref st, .int x, .int (z : Int)] ∧ StoreAt H C st dx wl pl room entries least ws kvs ∧ Seen kvs least ∧ (kvs.length : Int) < entries ∧ entries ≤ 100000 ∧ (ws.length : Int) + 3 + z ≤ room ∧ room ≤ 100000 ∧
  ∀ m H', StoreAt H' C st dx wl pl room entries m (ws ++ (m :: (z : Int) :: x :: List.replicate z 0)) (putK kvs (.inl m) (.int (ws.length : Int))) → Fr [st, wl, pl] H H' → Seen kvs m → valV kvs (.inl m) = none → Q (.int m) H'
theorem rep_int (z : Nat) (x : Int) : (List.replicate z [V.int x]).flatten = (List.replicate z x).map V.int := by
  induction z with
  | zero => rfl
  | succ n ih => rw [List.replicate_succ, List.flatten_cons, ih, List.replicate_succ, List.map_cons] <;> rfl
theorem ok_Store_allocate (W : WT P K mg base) : FnOk P w K mg base CX0 2 W.f_Store_allocate W.fd_Store_allocate ["self", "kind", "size"] (sp_alloc W.c_Store) := by
  refine W.F_Store_allocate.ok sc_Store_allocate (fun vs H Q E h => ?_) (fun cdv A outer s H vs Q E hr h => ?_)
  · obtain ⟨st, dx, wl, pl, room, entries, least, ws, kvs, x, z, rfl, _⟩ := h
    rfl
  · obtain ⟨st, dx, wl, pl, room, entries, least, ws, kvs, x, z, rfl, S, hs, hl, he, hz, hr2, k⟩ := h
    have hu1 := hu_of hr
    have hu64 := hu64_of hr
    refine ⟨_, (pss_cons (ps_if (pt_cmpR op_gtU (pe_op op_addU (pe_op op_addU (pe_callB call_lenU (by rfl) W.n_len bb_len (pa_cons (pe_fld (pv 0) rfl) pa_nil)) (pe_gi rfl W.g_HEADER)) (pv 2)) (pe_fld (pv 0) rfl) (by first | exact nomark _ | rfl)) (pss_one ps_never) pss_nil)
      (pss_cons (ps_set (i := 3) sc_Store_allocate.nd rfl (by first | exact Or.inl rfl | exact Or.inr rfl) (pe_meth0 (pv 0) W.C_Store W.m_Store_free_number (ok_Store_free_number W) (hr.mono (by decide)) W.b_Store_free_number .nil pass0 ))
      (pss_cons (ps_dput hu1 (pe_fld (pv 0) rfl) (pv 3) (pe_callB call_lenU (by rfl) W.n_len bb_len (pa_cons (pe_fld (pv 0) rfl) pa_nil)) rfl)
      (pss_cons (ps_expr (pe_bm PySem.F.plainAttrs_list PySem.F.slot_list_extend PySem.F.type_list_extend mt_extend (pe_fld (pv 0) rfl) (pa_cons (pe_lst (pa_cons (pv 3) (pa_cons (pv 2) (pa_cons (pv 1) pa_nil)))) pa_nil)))
      (pss_cons (ps_expr (pe_bm PySem.F.plainAttrs_list PySem.F.slot_list_extend PySem.F.type_list_extend mt_extend (pe_fld (pv 0) rfl) (pa_cons (pe_op op_mulU (pe_lst (pa_cons (pe_gi rfl W.g_NIL) pa_nil)) (pv 2)) pa_nil)))
      (pss_one (ps_ret (pv 3)))))))), ?_⟩
    refine ⟨_, rfl, st, _, dx, _, _, rfl, S.st, W.C_Store, W.na_Store_words, rfl, ?_⟩
    refine Or.inl ⟨_, Or.inl (SqL.of S.wl), ?_⟩
    rw [List.length_map]
    refine ⟨_, rfl, ?_⟩
    refine ⟨_, rfl, st, _, dx, _, _, rfl, S.st, W.C_Store, W.na_Store_room, rfl, ?_⟩
    refine ⟨_, rfl, ?_⟩
    refine iteD (fun h => ?_) (fun h => ?_)
    · have h : room < (ws.length : Int) + 3 + z := h
      omega
    · refine ⟨_, rfl, st, dx, _, rfl, S.st, rfl, ?_⟩
      refine ⟨st, dx, wl, pl, room, entries, least, ws, kvs, rfl, S, hs, hl, fun m H1 S1 fr hs1 hm => ?_⟩
      have n1 : st ≠ pl := ne_of S1.st S1.pl (by intro z; cases z)
      have n2 : wl ≠ pl := ne_of S1.wl S1.pl (by intro z; cases z)
      have n3 : st ≠ wl := ne_of S1.st S1.wl (by intro z; cases z)
      refine ⟨_, rfl, st, _, dx, _, _, rfl, S1.st, W.C_Store, W.na_Store_words, rfl, ?_⟩
      refine Or.inl ⟨_, Or.inl (SqL.of S1.wl), ?_⟩
      rw [List.length_map]
      refine ⟨_, rfl, st, _, dx, _, _, rfl, S1.st, W.C_Store, W.na_Store__places, rfl, ?_⟩
      refine ⟨_, rfl, pl, _, rfl, DPut.k (k := Sum.inl m) S1.pl (by rw [sizeLine_eq]; omega), ?_⟩
      generalize e2 : upd H1 pl (.dK (putK kvs (Sum.inl m) (.int (ws.length : Int)))) = H2
      have s2 : H2 st = some (.ins W.c_Store dx (sF room entries wl pl m)) := by rw [← e2, upd_ne n1]; exact S1.st
      have w2 : H2 wl = some (.lst (ws.map V.int)) := by rw [← e2, upd_ne n2]; exact S1.wl
      have p2 : H2 pl = some (.dK (putK kvs (Sum.inl m) (.int (ws.length : Int)))) := by rw [← e2]; exact upd_same
      have f2 : Fr [st, wl, pl] H H2 := by
        refine Fr.trans (H1 := H1) (fun b o e n => ?_) (by rw [← e2]; exact Fr.at (by simp))
        rw [fr b (fun z => n (by simp [z]))]; exact e
      refine ⟨_, rfl, st, _, dx, _, _, rfl, s2, W.C_Store, W.na_Store_words, rfl, Or.inl ⟨rfl, _, SqL.of w2⟩, ?_⟩
      refine ⟨_, rfl, _, rfl, _, rfl, (by show 3 ≤ sizeLine; decide), fun q hq => ?_⟩
      have nq : wl ≠ q := ne_of_none w2 hq
      refine ⟨wl, q, _, _, rfl, rfl, (by rw [upd_ne nq]; exact w2), upd_same, (by rw [List.length_map, sizeLine_eq]; show ws.length + 3 ≤ _; omega), ?_⟩
      have ew : ws.map V.int ++ [V.int m, .int (z : Int), .int x] = (ws ++ [m, (z : Int), x]).map V.int := by rw [List.map_append]; rfl
      rw [ew]
      generalize e3 : upd (upd H2 q (.lst [V.int m, .int (z : Int), .int x])) wl (.lst ((ws ++ [m, (z : Int), x]).map V.int)) = H3
      have s3 : H3 st = some (.ins W.c_Store dx (sF room entries wl pl m)) := by rw [← e3, upd_ne n3, upd_ne (ne_of_none s2 hq)]; exact s2
      have w3 : H3 wl = some (.lst ((ws ++ [m, (z : Int), x]).map V.int)) := by rw [← e3]; exact upd_same
      have p3 : H3 pl = some (.dK (putK kvs (Sum.inl m) (.int (ws.length : Int)))) := by rw [← e3, upd_ne n2.symm, upd_ne (ne_of_none p2 hq)]; exact p2
      have f3 : Fr [st, wl, pl] H H3 := by
        rw [← e3]
        exact (f2.trans (Fr.new hq)).trans (Fr.at (by simp))
      refine ⟨_, rfl, st, _, dx, _, _, rfl, s3, W.C_Store, W.na_Store_words, rfl, Or.inl ⟨rfl, _, SqL.of w3⟩, ?_⟩
      refine ⟨(by show 1 ≤ sizeLine; decide), fun q1 hq1 => ?_⟩
      refine ⟨_, rfl, ?_⟩
      refine ⟨q1, (z : Int), _, rfl, rfl, upd_same, by omega, by omega, (by show 1 * ((z : Int)).toNat ≤ _; rw [sizeLine_eq]; omega), fun q2 hq2 => ?_⟩
      rw [Int.toNat_natCast, rep_int]
      have f4 := (f3.trans (Fr.new (o := .lst [V.int 0]) hq1)).trans (Fr.new (o := .lst ((List.replicate z (0 : Int)).map V.int)) hq2)
      generalize e5 : upd (upd H3 q1 (.lst [V.int 0])) q2 (.lst ((List.replicate z (0 : Int)).map V.int)) = H5
      have g5 : ∀ b o, H3 b = some o → H5 b = some o := fun b o e => by
        have h1 : upd H3 q1 (.lst [V.int 0]) b = some o := by rw [upd_ne (ne_of_none e hq1)]; exact e
        rw [← e5, upd_ne (ne_of_none h1 hq2)]; exact h1
      rw [e5] at f4
      refine ⟨wl, q2, _, _, rfl, rfl, g5 _ _ w3, (by rw [← e5]; exact upd_same), (by simp only [List.length_map, List.length_append, List.length_replicate]; rw [sizeLine_eq]; show ws.length + 3 + z ≤ _; omega), ?_⟩
      have ew2 : (ws ++ [m, (z : Int), x]).map V.int ++ (List.replicate z (0 : Int)).map V.int = (ws ++ (m :: (z : Int) :: x :: List.replicate z 0)).map V.int := by rw [← List.map_append, List.append_assoc]; rfl
      rw [ew2]
      refine ⟨_, rfl, ?_⟩
      refine k m _ ⟨?_, upd_same, ?_⟩ (f4.trans (Fr.at (by simp))) hs1 hm
      · rw [upd_ne n3]; exact g5 _ _ s3
      · rw [upd_ne n2.symm]; exact g5 _ _ p3
end

end LX
namespace LX
open PySem PySem.Spec PyProof.Rows L2 NdefX
structure Ob where
  num : Int
  kind : Int
  sl : List Int
  live : Bool
def fl (o : Ob) : List Int := o.num :: (o.sl.length : Int) :: o.kind :: o.sl
def flat (O : List Ob) : List Int := O.flatMap fl
def off (O : List Ob) (i : Nat) : Nat := (flat (O.take i)).length
theorem flat_app (A B : List Ob) : flat (A ++ B) = flat A ++ flat B := List.flatMap_append
theorem flat_cons (o : Ob) (B : List Ob) : flat (o :: B) = fl o ++ flat B := List.flatMap_cons
theorem fl_len (o : Ob) : (fl o).length = 3 + o.sl.length := by unfold fl; simp; omega
theorem split_at {α : Type} {l : List α} {i : Nat} {x : α} (h : l[i]? = some x) : l = l.take i ++ x :: l.drop (i + 1) := by
  obtain ⟨hi, e⟩ := List.getElem?_eq_some_iff.mp h
  subst e
  rw [List.getElem_cons_drop, List.take_append_drop]
theorem flat_split {O : List Ob} {i : Nat} {o : Ob} (h : O[i]? = some o) : flat O = flat (O.take i) ++ (fl o ++ flat (O.drop (i + 1))) := by
  rw [← flat_cons, ← flat_app, ← split_at h]
theorem flat_set {O : List Ob} {i : Nat} {o o' : Ob} (h : O[i]? = some o) : flat (O.set i o') = flat (O.take i) ++ (fl o' ++ flat (O.drop (i + 1))) := by
  have hi := (List.getElem?_eq_some_iff.mp h).1
  rw [List.set_eq_take_append_cons_drop, if_pos hi, flat_app, flat_cons]
theorem off_lt {O : List Ob} {i : Nat} {o : Ob} (h : O[i]? = some o) : off O i + 3 + o.sl.length ≤ (flat O).length := by
  have := congrArg List.length (flat_split h)
  rw [List.length_append, List.length_append, fl_len] at this
  unfold off
  omega
theorem at_split {α : Type} {A B l : List α} {k : Nat} (hk : k < l.length) : (A ++ (l ++ B))[A.length + k]? = l[k]? := by
  rw [List.getElem?_append_right (by omega), Nat.add_sub_cancel_left, List.getElem?_append_left hk]
theorem flat_at {O : List Ob} {i k : Nat} {o : Ob} (h : O[i]? = some o) (hk : k < (fl o).length) : (flat O)[off O i + k]? = (fl o)[k]? := by
  have e := flat_split h
  have := at_split (A := flat (O.take i)) (B := flat (O.drop (i + 1))) hk
  rw [← e] at this
  exact this
theorem flat_num {O : List Ob} {i : Nat} {o : Ob} (h : O[i]? = some o) : (flat O)[off O i]? = some o.num := flat_at (k := 0) h (by rw [fl_len]; omega)
theorem flat_size {O : List Ob} {i : Nat} {o : Ob} (h : O[i]? = some o) : (flat O)[off O i + 1]? = some (o.sl.length : Int) := flat_at (k := 1) h (by rw [fl_len]; omega)
theorem flat_kind {O : List Ob} {i : Nat} {o : Ob} (h : O[i]? = some o) : (flat O)[off O i + 2]? = some o.kind := flat_at (k := 2) h (by rw [fl_len]; omega)
theorem flat_slots {O : List Ob} {i : Nat} {o : Ob} (h : O[i]? = some o) : seg (flat O) (off O i + 3) o.sl.length = o.sl := by
  unfold seg
  rw [flat_split h, ← List.drop_drop]
  unfold off
  rw [List.drop_left]
  show ((o.sl ++ flat (O.drop (i + 1))).take _) = _
  rw [List.take_left]
theorem set_split {α : Type} {A B l : List α} {k : Nat} {x : α} (hk : k < l.length) : (A ++ (l ++ B)).set (A.length + k) x = A ++ (l.set k x ++ B) := by
  rw [List.set_append_right _ _ (by omega), Nat.add_sub_cancel_left, List.set_append_left _ _ hk]
theorem set_flat {O : List Ob} {i k : Nat} {o o' : Ob} {x : Int} (h : O[i]? = some o) (hk : k < (fl o).length) (e : (fl o).set k x = fl o') : (flat O).set (off O i + k) x = flat (O.set i o') := by
  rw [flat_set h, ← e]
  have := set_split (A := flat (O.take i)) (B := flat (O.drop (i + 1))) (x := x) hk
  rw [← flat_split h] at this
  exact this
theorem set_num {O : List Ob} {i : Nat} {o : Ob} (x : Int) (h : O[i]? = some o) : (flat O).set (off O i) x = flat (O.set i { o with num := x }) := set_flat (k := 0) h (by rw [fl_len]; omega) rfl
theorem set_kind {O : List Ob} {i : Nat} {o : Ob} (x : Int) (h : O[i]? = some o) : (flat O).set (off O i + 2) x = flat (O.set i { o with kind := x }) := set_flat (k := 2) h (by rw [fl_len]; omega) rfl
theorem set_slot {O : List Ob} {i a : Nat} {o : Ob} (x : Int) (h : O[i]? = some o) (ha : a < o.sl.length) : (flat O).set (off O i + 3 + a) x = flat (O.set i { o with sl := o.sl.set a x }) := by
  have := set_flat (k := 3 + a) (o' := { o with sl := o.sl.set a x }) (x := x) h (by rw [fl_len]; omega) (by
    unfold fl
    rw [show 3 + a = a + 1 + 1 + 1 by omega]
    simp)
  rw [← this, Nat.add_assoc]
theorem flat_kill {O : List Ob} {i : Nat} {o : Ob} (h : O[i]? = some o) (b : Bool) : flat (O.set i { o with live := b }) = flat O := by
  rw [flat_set h, flat_split h]; rfl
theorem off_set {O : List Ob} {i j : Nat} {o o' : Ob} (h : O[i]? = some o) (hl : o'.sl.length = o.sl.length) : off (O.set i o') j = off O j := by
  unfold off
  rw [List.take_set]
  by_cases hij : i < j
  · have h' : (O.take j)[i]? = some o := by rw [List.getElem?_take, if_pos hij]; exact h
    rw [flat_set h', flat_split h', List.length_append, List.length_append, List.length_append, List.length_append, fl_len, fl_len, hl]
  · rw [List.set_eq_of_length_le (by rw [List.length_take]; omega)]
theorem off_app {O B : List Ob} {i : Nat} (h : i ≤ O.length) : off (O ++ B) i = off O i := by
  unfold off
  rw [List.take_append_of_le_length h]
theorem off_end {O : List Ob} : off O O.length = (flat O).length := by unfold off; rw [List.take_length]
section
variable {κ : Type} [DecidableEq κ]
theorem valV_drop (k j : κ) : ∀ kvs : List (κ × V), valV (dropK kvs k) j = if j = k then none else valV kvs j
  | [] => by simp [dropK, valV]
  | p :: r => by
    have ih := valV_drop k j r
    unfold dropK at ih ⊢
    by_cases e : p.1 = k
    · rw [List.filter_cons_of_neg (by simp [e]), ih]
      by_cases hj : j = k
      · rw [if_pos hj, if_pos hj]
      · rw [if_neg hj, if_neg hj, valV_neg (fun z => hj (z.symm.trans e))]
    · rw [List.filter_cons_of_pos (by simp [e])]
      by_cases hp : p.1 = j
      · rw [valV_pos hp, valV_pos hp, if_neg (fun z => e (hp.trans z))]
      · rw [valV_neg hp, valV_neg hp, ih]
theorem nd_drop {kvs : List (κ × V)} {k : κ} (h : (kvs.map (·.1)).Nodup) : ((dropK kvs k).map (·.1)).Nodup := h.sublist (List.Sublist.map _ List.filter_sublist)
theorem mem_val {kvs : List (κ × V)} {k : κ} (h : k ∈ kvs.map (·.1)) : ∃ v, valV kvs k = some v := by
  obtain ⟨p, hp, e⟩ := List.mem_map.mp h
  have : (valV kvs k).isSome = true := by
    rw [← valV_any]
    exact List.any_eq_true.mpr ⟨p, hp, decide_eq_true e⟩
  exact Option.isSome_iff_exists.mp this
theorem nd_put {kvs : List (κ × V)} {k : κ} {v : V} (h : (kvs.map (·.1)).Nodup) : ((putK kvs k v).map (·.1)).Nodup := by
  unfold putK
  split
  · have e : ∀ l : List (κ × V), (l.map (fun kv => if kv.1 = k then (kv.1, v) else kv)).map (·.1) = l.map (·.1) := by
      intro l
      rw [List.map_map]
      apply List.map_congr_left
      intro a _
      show (if a.1 = k then (a.1, v) else a).1 = a.1
      split <;> rfl
    rw [e]; exact h
  · rename_i hn
    rw [List.map_append]
    refine List.nodup_append.mpr ⟨h, by simp, fun a ha b hb e => ?_⟩
    subst e
    have hb : a = k := by simpa using hb
    subst hb
    obtain ⟨v, hv⟩ := mem_val ha
    rw [valV_any, hv] at hn
    exact hn rfl
end
/-- the table and the words tell the row -/
structure Good (O : List Ob) (kvs : List (Key × V)) (least : Int) : Prop where
  val : ∀ k v, valV kvs k = some v ↔ ∃ i o, O[i]? = some o ∧ o.live = true ∧ k = .inl o.num ∧ v = .int (off O i : Nat)
  nd : (kvs.map (·.1)).Nodup
  un : ∀ (i j : Nat) (o o' : Ob), O[i]? = some o → O[j]? = some o' → o.live = true → o'.live = true → o.num = o'.num → i = j
  seen : Seen kvs least
theorem Good.at {O : List Ob} {kvs : List (Key × V)} {least : Int} (G : Good O kvs least) {i : Nat} {o : Ob} (h : O[i]? = some o) (hl : o.live = true) : valV kvs (.inl o.num) = some (.int (off O i : Nat)) := (G.val _ _).mpr ⟨i, o, h, hl, rfl, rfl⟩
theorem Good.ints {O : List Ob} {kvs : List (Key × V)} {least : Int} (G : Good O kvs least) : ∃ ns : List Int, kvs.map (·.1) = ns.map Sum.inl ∧ ns.Perm ((O.filter (·.live)).map (·.num)) := by
  have hk : ∀ k ∈ kvs.map (·.1), ∃ n, k = Sum.inl n := fun k hk => by
    obtain ⟨v, hv⟩ := mem_val hk
    obtain ⟨i, o, _, _, e, _⟩ := (G.val _ _).mp hv
    exact ⟨_, e⟩
  obtain ⟨ns, hns⟩ : ∃ ns : List Int, kvs.map (·.1) = ns.map Sum.inl := by
    generalize kvs.map (·.1) = l at hk
    induction l with
    | nil => exact ⟨[], rfl⟩
    | cons a r ih =>
      obtain ⟨n, e⟩ := hk a List.mem_cons_self
      obtain ⟨m, em⟩ := ih fun k h => hk k (List.mem_cons_of_mem _ h)
      exact ⟨n :: m, by rw [e, em]; rfl⟩
  refine ⟨ns, hns, ?_⟩
  have nd1 : ns.Nodup := by
    have := G.nd
    rw [hns] at this
    exact (List.pairwise_map.mp this).imp fun h e => h (by rw [e])
  have nd2 : ((O.filter (·.live)).map (·.num)).Nodup := by
    have key : ∀ (l : List Ob), (∀ (i j : Nat) (o o' : Ob), l[i]? = some o → l[j]? = some o' → o.live = true → o'.live = true → o.num = o'.num → i = j) → ((l.filter (·.live)).map (·.num)).Nodup := by
      intro l
      induction l with
      | nil => intro _; exact List.nodup_nil
      | cons a r ih =>
        intro h
        have ihr := ih fun i j o o' h1 h2 l1 l2 e => by
          have := h (i + 1) (j + 1) o o' h1 h2 l1 l2 e
          omega
        by_cases ha : a.live = true
        · rw [List.filter_cons_of_pos (by exact ha), List.map_cons]
          refine List.nodup_cons.mpr ⟨fun hm => ?_, ihr⟩
          obtain ⟨o, ho, e⟩ := List.mem_map.mp hm
          obtain ⟨h1, h2⟩ := List.mem_filter.mp ho
          obtain ⟨j, hj⟩ := List.getElem?_of_mem h1
          have := h 0 (j + 1) a o rfl hj ha h2 e.symm
          omega
        · rw [List.filter_cons_of_neg (by exact ha)]
          exact ihr
    exact key O G.un
  refine (List.perm_ext_iff_of_nodup nd1 nd2).mpr fun n => ?_
  have h1 : n ∈ ns ↔ (Sum.inl n : Key) ∈ kvs.map (·.1) := by
    rw [hns]
    constructor
    · exact fun h => List.mem_map.mpr ⟨n, h, rfl⟩
    · intro h
      obtain ⟨m, hm, e⟩ := List.mem_map.mp h
      cases e
      exact hm
  rw [h1]
  constructor
  · intro h
    obtain ⟨v, hv⟩ := mem_val h
    obtain ⟨i, o, q1, q2, q3, _⟩ := (G.val _ _).mp hv
    cases q3
    exact List.mem_map.mpr ⟨o, List.mem_filter.mpr ⟨List.mem_of_getElem? q1, q2⟩, rfl⟩
  · intro h
    obtain ⟨o, ho, e⟩ := List.mem_map.mp h
    obtain ⟨h1, h2⟩ := List.mem_filter.mp ho
    obtain ⟨i, hi⟩ := List.getElem?_of_mem h1
    have := val_mem (G.at hi h2)
    rw [e] at this
    exact List.mem_map.mpr ⟨_, this, rfl⟩
theorem set_get {O : List Ob} {i j : Nat} {o o' : Ob} (h : O[i]? = some o) : (O.set i o')[j]? = if j = i then some o' else O[j]? := by
  have hi := (List.getElem?_eq_some_iff.mp h).1
  rw [List.getElem?_set]
  by_cases e : i = j
  · subst e; simp [hi]
  · rw [if_neg e, if_neg (Ne.symm e)]
/-- the contents of an object change -/
theorem Good.same {O : List Ob} {kvs : List (Key × V)} {least : Int} (G : Good O kvs least) {i : Nat} {o o' : Ob} (h : O[i]? = some o) (hn : o'.num = o.num) (hv : o'.live = o.live) (hl : o'.sl.length = o.sl.length) : Good (O.set i o') kvs least := by
  refine ⟨fun k v => ?_, G.nd, fun a b x y ha hb la lb e => ?_, G.seen⟩
  · rw [G.val k v]
    constructor
    · rintro ⟨j, x, hj, lx, rfl, rfl⟩
      by_cases e : j = i
      · subst e
        rw [h] at hj; cases hj
        exact ⟨j, o', by rw [set_get h, if_pos rfl], by rw [hv]; exact lx, by rw [hn], by rw [off_set h hl]⟩
      · exact ⟨j, x, by rw [set_get h, if_neg e]; exact hj, lx, rfl, by rw [off_set h hl]⟩
    · rintro ⟨j, x, hj, lx, rfl, rfl⟩
      rw [set_get h] at hj
      rw [off_set h hl]
      by_cases e : j = i
      · subst e
        rw [if_pos rfl] at hj; cases hj
        exact ⟨j, o, h, by rw [← hv]; exact lx, by rw [hn], rfl⟩
      · rw [if_neg e] at hj
        exact ⟨j, x, hj, lx, rfl, rfl⟩
  · have g : ∀ (a : Nat) (x : Ob), (O.set i o')[a]? = some x → ∃ z, O[a]? = some z ∧ z.live = x.live ∧ z.num = x.num := fun a x ha => by
      rw [set_get h] at ha
      by_cases e : a = i
      · subst e; rw [if_pos rfl] at ha; cases ha
        exact ⟨o, h, hv.symm, hn.symm⟩
      · rw [if_neg e] at ha; exact ⟨x, ha, rfl, rfl⟩
    obtain ⟨z1, q1, q2, q3⟩ := g a x ha
    obtain ⟨z2, r1, r2, r3⟩ := g b y hb
    exact G.un a b z1 z2 q1 r1 (q2.trans la) (r2.trans lb) (by rw [q3, r3, e])
theorem Good.kill {O : List Ob} {kvs : List (Key × V)} {least : Int} (G : Good O kvs least) {i : Nat} {o : Ob} (h : O[i]? = some o) (ho : o.live = true) (hn : 0 ≤ o.num) :
    Good (O.set i { o with live := false }) (dropK kvs (.inl o.num)) (if o.num < least then o.num else least) := by
  refine ⟨fun k v => ?_, nd_drop G.nd, fun a b x y ha hb la lb e => ?_, ?_⟩
  · rw [valV_drop]
    constructor
    · intro hv
      split at hv
      · cases hv
      · rename_i hk
        obtain ⟨j, x, hj, lx, rfl, rfl⟩ := (G.val _ _).mp hv
        have e : j ≠ i := fun e => by subst e; rw [h] at hj; cases hj; exact hk rfl
        exact ⟨j, x, by rw [set_get h, if_neg e]; exact hj, lx, rfl, by rw [off_set (o' := { o with live := false }) h rfl]⟩
    · rintro ⟨j, x, hj, lx, rfl, rfl⟩
      rw [set_get h] at hj
      rw [off_set (o' := { o with live := false }) h rfl]
      by_cases e : j = i
      · subst e; rw [if_pos rfl] at hj; cases hj; cases lx
      · rw [if_neg e] at hj
        rw [if_neg (fun z => e (G.un j i x o hj h lx ho (Sum.inl.inj z)))]
        exact (G.val _ _).mpr ⟨j, x, hj, lx, rfl, rfl⟩
  · have g : ∀ (a : Nat) (x : Ob), x.live = true → (O.set i { o with live := false })[a]? = some x → O[a]? = some x := fun a x lx ha => by
      rw [set_get h] at ha
      by_cases e : a = i
      · subst e; rw [if_pos rfl] at ha; cases ha; cases lx
      · rw [if_neg e] at ha; exact ha
    exact G.un a b x y (g a x la ha) (g b y lb hb) la lb e
  · have hs := G.seen
    refine ⟨by split; exact hn; exact hs.1, fun n h0 h1 => ?_⟩
    rw [valV_drop]
    have h2 : n < o.num ∧ n < least ∨ ¬ o.num < least ∧ n < least := by split at h1 <;> omega
    rw [if_neg (fun z => by have := Sum.inl.inj z; omega)]
    exact hs.2 n h0 (by omega)
def swapO (O : List Ob) (i j : Nat) (a b : Ob) : List Ob := (O.set i { a with num := b.num }).set j { b with num := a.num }
theorem swap_get {O : List Ob} {i j k : Nat} {a b : Ob} (ha : O[i]? = some a) (hb : O[j]? = some b) : (swapO O i j a b)[k]? = if k = j then some { b with num := a.num } else if k = i then some { a with num := b.num } else O[k]? := by
  unfold swapO
  have hj : (O.set i { a with num := b.num })[j]? = some (if j = i then { a with num := b.num } else b) := by
    rw [set_get ha]
    split
    · rfl
    · exact hb
  rw [set_get hj, set_get ha]
theorem swap_off {O : List Ob} {i j k : Nat} {a b : Ob} (ha : O[i]? = some a) (hb : O[j]? = some b) : off (swapO O i j a b) k = off O k := by
  unfold swapO
  have hj : (O.set i { a with num := b.num })[j]? = some (if j = i then { a with num := b.num } else b) := by
    rw [set_get ha]
    split
    · rfl
    · exact hb
  rw [off_set hj, off_set ha] <;> (try rfl)
  split
  · rename_i e; subst e; rw [ha] at hb; cases hb; rfl
  · rfl
theorem swap_flat {O : List Ob} {i j : Nat} {a b : Ob} (ha : O[i]? = some a) (hb : O[j]? = some b) : ((flat O).set (off O i) b.num).set (off O j) a.num = flat (swapO O i j a b) := by
  have hj : (O.set i { a with num := b.num })[j]? = some (if j = i then { a with num := b.num } else b) := by
    rw [set_get ha]
    split
    · rfl
    · exact hb
  rw [set_num b.num ha]
  have e : off O j = off (O.set i { a with num := b.num }) j := (off_set (o' := { a with num := b.num }) ha rfl).symm
  rw [e, set_num a.num hj]
  unfold swapO
  congr 1
  by_cases q : j = i
  · subst q; rw [ha] at hb; cases hb
    rw [if_pos rfl]
  · rw [if_neg q]
theorem Good.swap {O : List Ob} {kvs : List (Key × V)} {least : Int} (G : Good O kvs least) {i j : Nat} {a b : Ob} (ha : O[i]? = some a) (hb : O[j]? = some b) (la : a.live = true) (lb : b.live = true) :
    Good (swapO O i j a b) (putK (putK kvs (.inl a.num) (.int (off O j : Nat))) (.inl b.num) (.int (off O i : Nat))) least := by
  have vv : ∀ k, valV (putK (putK kvs (.inl a.num) (.int (off O j : Nat))) (.inl b.num) (.int (off O i : Nat))) k = if k = .inl b.num then some (.int (off O i : Nat)) else if k = .inl a.num then some (.int (off O j : Nat)) else valV kvs k := fun k => by rw [valV_put, valV_put]
  refine ⟨fun k v => ?_, nd_put (nd_put G.nd), fun p q x y hp hq lx ly e => ?_, G.seen.1, fun n h0 h1 => ?_⟩
  · rw [vv]
    constructor
    · intro hv
      split at hv
      · rename_i hk
        cases hv
        by_cases q : i = j
        · subst q; rw [ha] at hb; cases hb
          exact ⟨i, { a with num := a.num }, by rw [swap_get ha ha, if_pos rfl], la, hk, by rw [swap_off ha ha]⟩
        · exact ⟨i, { a with num := b.num }, by rw [swap_get ha hb, if_neg q, if_pos rfl], la, hk, by rw [swap_off ha hb]⟩
      · split at hv
        · rename_i hk
          cases hv
          exact ⟨j, { b with num := a.num }, by rw [swap_get ha hb, if_pos rfl], lb, hk, by rw [swap_off ha hb]⟩
        · rename_i k1 k2
          obtain ⟨m, x, hm, lx, rfl, rfl⟩ := (G.val _ _).mp hv
          have e1 : m ≠ j := fun e => by subst e; rw [hb] at hm; cases hm; exact k1 rfl
          have e2 : m ≠ i := fun e => by subst e; rw [ha] at hm; cases hm; exact k2 rfl
          exact ⟨m, x, by rw [swap_get ha hb, if_neg e1, if_neg e2]; exact hm, lx, rfl, by rw [swap_off ha hb]⟩
    · rintro ⟨m, x, hm, lx, rfl, rfl⟩
      rw [swap_get ha hb] at hm
      rw [swap_off ha hb]
      by_cases e1 : m = j
      · subst e1
        rw [if_pos rfl] at hm; cases hm
        by_cases q : a.num = b.num
        · have := G.un i m a b ha hb la lb q
          subst this
          rw [if_pos (by rw [q])]
        · rw [if_neg (fun z => q (Sum.inl.inj z)), if_pos rfl]
      · rw [if_neg e1] at hm
        by_cases e2 : m = i
        · subst e2
          rw [if_pos rfl] at hm; cases hm
          rw [if_pos rfl]
        · rw [if_neg e2] at hm
          rw [if_neg (fun z => e1 (G.un m j x b hm hb lx lb (Sum.inl.inj z))), if_neg (fun z => e2 (G.un m i x a hm ha lx la (Sum.inl.inj z)))]
          exact (G.val _ _).mpr ⟨m, x, hm, lx, rfl, rfl⟩
  · rw [swap_get ha hb] at hp hq
    by_cases p1 : p = j <;> by_cases q1 : q = j
    · omega
    · subst p1
      rw [if_pos rfl] at hp; cases hp
      rw [if_neg q1] at hq
      by_cases q2 : q = i
      · subst q2; rw [if_pos rfl] at hq; cases hq
        exact (G.un q p a b ha hb la lb e).symm
      · rw [if_neg q2] at hq
        exact absurd (G.un i q a y ha hq la ly e).symm q2
    · subst q1
      rw [if_pos rfl] at hq; cases hq
      rw [if_neg p1] at hp
      by_cases p2 : p = i
      · subst p2; rw [if_pos rfl] at hp; cases hp
        exact G.un p q a b ha hb la lb e.symm
      · rw [if_neg p2] at hp
        exact absurd (G.un p i x a hp ha lx la e) p2
    · rw [if_neg p1] at hp
      rw [if_neg q1] at hq
      by_cases p2 : p = i <;> by_cases q2 : q = i
      · omega
      · subst p2; rw [if_pos rfl] at hp; cases hp
        rw [if_neg q2] at hq
        exact absurd (G.un j q b y hb hq lb ly e).symm q1
      · subst q2; rw [if_pos rfl] at hq; cases hq
        rw [if_neg p2] at hp
        exact absurd (G.un p j x b hp hb lx lb e) p1
      · rw [if_neg p2] at hp; rw [if_neg q2] at hq
        exact G.un p q x y hp hq lx ly e
  · rw [vv]
    split
    · rfl
    · split
      · rfl
      · exact G.seen.2 n h0 h1
theorem Good.add {O : List Ob} {kvs : List (Key × V)} {least : Int} (G : Good O kvs least) {o : Ob} (ho : o.live = true) (hn : valV kvs (.inl o.num) = none) (hs : Seen kvs o.num) :
    Good (O ++ [o]) (putK kvs (.inl o.num) (.int (flat O).length)) o.num := by
  have no : ∀ (i : Nat) (x : Ob), O[i]? = some x → x.live = true → x.num ≠ o.num := fun i x hi lx e => by
    have := G.at hi lx
    rw [e, hn] at this
    cases this
  have ga : ∀ k : Nat, (O ++ [o])[k]? = if k < O.length then O[k]? else if k = O.length then some o else none := fun k => by
    by_cases h : k < O.length
    · rw [if_pos h, List.getElem?_append_left h]
    · rw [if_neg h, List.getElem?_append_right (by omega)]
      by_cases h2 : k = O.length
      · rw [if_pos h2, h2, Nat.sub_self]; rfl
      · rw [if_neg h2]
        exact List.getElem?_eq_none_iff.mpr (by simp; omega)
  refine ⟨fun k v => ?_, nd_put G.nd, fun p q x y hp hq lx ly e => ?_, hs.1, fun n h0 h1 => ?_⟩
  · rw [valV_put]
    constructor
    · intro hv
      split at hv
      · rename_i hk
        cases hv
        exact ⟨O.length, o, by rw [ga, if_neg (by omega), if_pos rfl], ho, hk, by rw [off_app (Nat.le_refl _), off_end]⟩
      · obtain ⟨m, x, hm, lx, rfl, rfl⟩ := (G.val _ _).mp hv
        have hl := (List.getElem?_eq_some_iff.mp hm).1
        exact ⟨m, x, by rw [ga, if_pos hl]; exact hm, lx, rfl, by rw [off_app (by omega)]⟩
    · rintro ⟨m, x, hm, lx, rfl, rfl⟩
      rw [ga] at hm
      by_cases hl : m < O.length
      · rw [if_pos hl] at hm
        rw [off_app (by omega), if_neg (fun z => no m x hm lx (Sum.inl.inj z))]
        exact (G.val _ _).mpr ⟨m, x, hm, lx, rfl, rfl⟩
      · rw [if_neg hl] at hm
        split at hm
        · rename_i e; cases hm
          rw [if_pos rfl, e, off_app (Nat.le_refl _), off_end]
        · cases hm
  · rw [ga] at hp hq
    split at hp
    · split at hq
      · exact G.un p q x y hp hq lx ly e
      · split at hq
        · cases hq; exact absurd e (no p x hp lx)
        · cases hq
    · split at hp
      · cases hp
        split at hq
        · exact absurd e.symm (no q y hq ly)
        · split at hq
          · omega
          · cases hq
      · cases hp
  · rw [valV_put]
    split
    · rfl
    · exact hs.2 n h0 h1


end LX
namespace LX
open PySem PySem.Spec PyProof.Rows L2 NdefX
structure RowAt (H : Hp) (rl : Addr) (A : List (Addr × Addr)) (O : List Ob) : Prop where
  rl : H rl = some (.lst (A.map fun a => V.ref a.1))
  len : A.length = O.length
  it : ∀ (i : Nat) (a : Addr × Addr) (o : Ob), A[i]? = some a → O[i]? = some o → H a.1 = some (.lst [.int o.num, .int o.kind, .ref a.2, .bl o.live]) ∧ H a.2 = some (.lst (o.sl.map V.int))
structure Sep (A : List (Addr × Addr)) (rl : Addr) (X : List Addr) : Prop where
  d1 : ∀ (i j : Nat) (a b : Addr × Addr), A[i]? = some a → A[j]? = some b → (a.1 = b.1 ∨ a.2 = b.2) → i = j
  d2 : ∀ a b, a ∈ A → b ∈ A → a.1 ≠ b.2
  d3 : ∀ a ∈ A, a.1 ≠ rl ∧ a.2 ≠ rl
  d4 : rl ∉ X
  d5 : ∀ a ∈ A, a.1 ∉ X ∧ a.2 ∉ X
theorem RowAt.keep {H H' : Hp} {rl : Addr} {A : List (Addr × Addr)} {O : List Ob} {F : List Addr} (R : RowAt H rl A O) (f : Fr F H H') (h1 : rl ∉ F) (h2 : ∀ a ∈ A, a.1 ∉ F ∧ a.2 ∉ F) : RowAt H' rl A O :=
  ⟨f _ _ R.rl h1, R.len, fun i a o ha ho => ⟨f _ _ (R.it i a o ha ho).1 (h2 a (List.mem_of_getElem? ha)).1, f _ _ (R.it i a o ha ho).2 (h2 a (List.mem_of_getElem? ha)).2⟩⟩
theorem RowAt.mono {H H' : Hp} {rl : Addr} {A : List (Addr × Addr)} {O : List Ob} (R : RowAt H rl A O) (f : Fr [] H H') : RowAt H' rl A O := R.keep f (by simp) (by simp)
theorem RowAt.get {H : Hp} {rl : Addr} {A : List (Addr × Addr)} {O : List Ob} (R : RowAt H rl A O) {i : Nat} {o : Ob} (h : O[i]? = some o) : ∃ a, A[i]? = some a ∧ H a.1 = some (.lst [.int o.num, .int o.kind, .ref a.2, .bl o.live]) ∧ H a.2 = some (.lst (o.sl.map V.int)) := by
  have hi := (List.getElem?_eq_some_iff.mp h).1
  have hA : i < A.length := by rw [R.len]; exact hi
  exact ⟨A[i], List.getElem?_eq_getElem hA, R.it i _ o (List.getElem?_eq_getElem hA) h⟩
theorem RowAt.set {H H' : Hp} {rl : Addr} {A : List (Addr × Addr)} {O : List Ob} {X : List Addr} (R : RowAt H rl A O) (D : Sep A rl X) {i : Nat} {a : Addr × Addr} {o o' : Ob} (ha : A[i]? = some a) (ho : O[i]? = some o)
    (h1 : H' a.1 = some (.lst [.int o'.num, .int o'.kind, .ref a.2, .bl o'.live])) (h2 : H' a.2 = some (.lst (o'.sl.map V.int))) (f : Fr (a.1 :: a.2 :: X) H H') : RowAt H' rl A (O.set i o') := by
  have ma := List.mem_of_getElem? ha
  refine ⟨f _ _ R.rl (by have := D.d3 a ma; simp [this.1.symm, this.2.symm, D.d4]), by rw [List.length_set]; exact R.len, fun j b x hb hx => ?_⟩
  rw [set_get ho] at hx
  by_cases e : j = i
  · subst e
    rw [if_pos rfl] at hx; cases hx
    rw [ha] at hb; cases hb
    exact ⟨h1, h2⟩
  · rw [if_neg e] at hx
    have mb := List.mem_of_getElem? hb
    have n1 : b.1 ≠ a.1 := fun z => e (D.d1 j i b a hb ha (Or.inl z))
    have n2 : b.2 ≠ a.2 := fun z => e (D.d1 j i b a hb ha (Or.inr z))
    have n3 : b.1 ≠ a.2 := D.d2 b a mb ma
    have n4 : b.2 ≠ a.1 := (D.d2 a b ma mb).symm
    obtain ⟨q1, q2⟩ := R.it j b x hb hx
    exact ⟨f _ _ q1 (by simp [n1, n3, (D.d5 b mb).1]), f _ _ q2 (by simp [n2, n4, (D.d5 b mb).2])⟩
def ad (A : List (Addr × Addr)) : List Addr := A.flatMap fun a => [a.1, a.2]
theorem ad_mem {A : List (Addr × Addr)} {a : Addr × Addr} (h : a ∈ A) : a.1 ∈ ad A ∧ a.2 ∈ ad A :=
  ⟨List.mem_flatMap.mpr ⟨a, h, by simp⟩, List.mem_flatMap.mpr ⟨a, h, by simp⟩⟩
def Zl (A : List (Addr × Addr)) (O : List Ob) : List ((Addr × Addr) × Ob) := (A.zip O).filter (·.2.live)
theorem Zl_get {A : List (Addr × Addr)} {O : List Ob} {z : (Addr × Addr) × Ob} (h : z ∈ Zl A O) : ∃ i : Nat, A[i]? = some z.1 ∧ O[i]? = some z.2 ∧ z.2.live = true := by
  obtain ⟨h1, h2⟩ := List.mem_filter.mp h
  obtain ⟨i, hi⟩ := List.getElem?_of_mem h1
  obtain ⟨q1, q2⟩ := List.getElem?_zip_eq_some.mp hi
  exact ⟨i, q1, q2, h2⟩
theorem Zl_snd {A : List (Addr × Addr)} {O : List Ob} (h : A.length = O.length) : (Zl A O).map (·.2) = O.filter (·.live) := by
  unfold Zl
  have : ∀ (A : List (Addr × Addr)) (O : List Ob), A.length = O.length → ((A.zip O).filter (·.2.live)).map (·.2) = O.filter (·.live) := by
    intro A
    induction A with
    | nil => intro O h; cases O with
      | nil => rfl
      | cons => simp at h
    | cons a r ih => intro O h; cases O with
      | nil => simp at h
      | cons o t =>
        have := ih t (by simpa using h)
        rw [List.zip_cons_cons]
        by_cases q : o.live = true
        · rw [List.filter_cons_of_pos (by exact q), List.filter_cons_of_pos (by exact q), List.map_cons, this]
        · rw [List.filter_cons_of_neg (by exact q), List.filter_cons_of_neg (by exact q), this]
  exact this A O h
theorem take_filter_yes {α : Type} {l : List α} {p : α → Bool} {i : Nat} {x : α} (h : l[i]? = some x) (hp : p x = true) : (l.take (i + 1)).filter p = (l.take i).filter p ++ [x] := by
  rw [List.take_succ, h, List.filter_append]
  simp [hp]
theorem take_filter_no {α : Type} {l : List α} {p : α → Bool} {i : Nat} {x : α} (h : l[i]? = some x) (hp : p x = false) : (l.take (i + 1)).filter p = (l.take i).filter p := by
  rw [List.take_succ, h, List.filter_append]
  simp [hp]
section
variable {P : Program} {w : World} {K : PySem.W.Frag} {mg : Str → Option Value} {base : Heap}
theorem flat_take {O : List Ob} {i : Nat} {o : Ob} (h : O[i]? = some o) : flat (O.take (i + 1)) = flat (O.take i) ++ [o.num, (o.sl.length : Int), o.kind] ++ o.sl := by
  rw [List.take_succ, h, flat_app]
  show flat (O.take i) ++ (fl o ++ []) = _
  rw [List.append_nil, List.append_assoc]
  rfl
end

end LX
namespace LX
open PySem PySem.Spec PyProof.Rows L2 NdefX
theorem Fr.of {F : List Addr} {H H' : Hp} {x y : Addr} (h : ∀ b, b ≠ x → b ≠ y → H' b = H b) (hx : x ∈ F) (hy : y ∈ F) : Fr F H H' := fun b o e n => by
  rw [h b (fun z => n (by rw [z]; exact hx)) (fun z => n (by rw [z]; exact hy))]; exact e
theorem StoreAt.keep {H H' : Hp} {C st dx wl pl : Addr} {room entries least : Int} {ws : List Int} {kvs : List (Key × V)} {F : List Addr} (S : StoreAt H C st dx wl pl room entries least ws kvs) (f : Fr F H H') (h : ∀ b, b ∈ [st, wl, pl] → b ∉ F) : StoreAt H' C st dx wl pl room entries least ws kvs :=
  ⟨f _ _ S.st (h _ (by simp)), f _ _ S.wl (h _ (by simp)), f _ _ S.pl (h _ (by simp))⟩
theorem RowAt.setItem {H H' : Hp} {rl : Addr} {A : List (Addr × Addr)} {O : List Ob} {X : List Addr} (R : RowAt H rl A O) (D : Sep A rl X) {i : Nat} {a : Addr × Addr} {o o' : Ob} (ha : A[i]? = some a) (ho : O[i]? = some o) (hs : o'.sl = o.sl)
    (h1 : H' a.1 = some (.lst [.int o'.num, .int o'.kind, .ref a.2, .bl o'.live])) (f : Fr (a.1 :: X) H H') : RowAt H' rl A (O.set i o') := by
  have ma := List.mem_of_getElem? ha
  refine R.set D ha ho h1 ?_ (f.mono fun b hb => by rcases List.mem_cons.mp hb with h | h <;> simp [h])
  rw [hs]
  exact f _ _ (R.it i a o ha ho).2 (by simp [(D.d2 a a ma ma).symm, (D.d5 a ma).2])
theorem RowAt.setSl {H H' : Hp} {rl : Addr} {A : List (Addr × Addr)} {O : List Ob} {X : List Addr} (R : RowAt H rl A O) (D : Sep A rl X) {i : Nat} {a : Addr × Addr} {o o' : Ob} (ha : A[i]? = some a) (ho : O[i]? = some o) (hn : o'.num = o.num) (hk : o'.kind = o.kind) (hv : o'.live = o.live)
    (h2 : H' a.2 = some (.lst (o'.sl.map V.int))) (f : Fr (a.2 :: X) H H') : RowAt H' rl A (O.set i o') := by
  have ma := List.mem_of_getElem? ha
  refine R.set D ha ho ?_ h2 (f.mono fun b hb => by rcases List.mem_cons.mp hb with h | h <;> simp [h])
  rw [hn, hk, hv]
  exact f _ _ (R.it i a o ha ho).1 (by simp [(D.d2 a a ma ma), (D.d5 a ma).1])
/-- the store and the row of the law -/
structure Law4 (C : Addr) (H : Hp) (st dx wl pl rl : Addr) (A : List (Addr × Addr)) (O : List Ob) (kvs : List (Key × V)) (least : Int) : Prop where
  S : StoreAt H C st dx wl pl 100000 100000 least (flat O) kvs
  G : Good O kvs least
  R : RowAt H rl A O
  D : Sep A rl [st, wl, pl]
  sz : ∀ o ∈ O, o.sl.length ≤ 39
  nn : ∀ o ∈ O, 0 ≤ o.num
theorem Law4.keep {C : Addr} {H H' : Hp} {st dx wl pl rl : Addr} {A : List (Addr × Addr)} {O : List Ob} {kvs : List (Key × V)} {least : Int} (L : Law4 C H st dx wl pl rl A O kvs least) (f : Fr [] H H') : Law4 C H' st dx wl pl rl A O kvs least :=
  ⟨L.S.keep f (by simp), L.G, L.R.mono f, L.D, L.sz, L.nn⟩
theorem flat_len {O : List Ob} (h : ∀ o ∈ O, o.sl.length ≤ 39) : (flat O).length ≤ 42 * O.length := by
  induction O with
  | nil => exact Nat.zero_le _
  | cons o r ih =>
    have := ih fun x hx => h x (List.mem_cons_of_mem _ hx)
    have := h o List.mem_cons_self
    rw [flat_cons, List.length_append, fl_len, List.length_cons]
    omega
theorem Good.kl {O : List Ob} {kvs : List (Key × V)} {least : Int} (G : Good O kvs least) : kvs.length ≤ O.length := by
  obtain ⟨ns, h1, h2⟩ := G.ints
  have e := congrArg List.length h1
  rw [List.length_map, List.length_map, h2.length_eq, List.length_map] at e
  have := List.length_filter_le (fun o : Ob => o.live) O
  omega
theorem pick {A : List (Addr × Addr)} {O : List Ob} (y : Int) (h : Zl A O ≠ []) : ∃ (z : (Addr × Addr) × Ob) (i : Nat), atI ((Zl A O).map fun z => V.ref z.1.1) (y % ((Zl A O).length : Int)) = some (V.ref z.1.1) ∧ A[i]? = some z.1 ∧ O[i]? = some z.2 ∧ z.2.live = true := by
  have hp : 0 < (Zl A O).length := List.length_pos_iff.mpr h
  have e1 := Int.emod_nonneg y (by omega : ((Zl A O).length : Int) ≠ 0)
  have e2 := Int.emod_lt_of_pos y (by omega : (0 : Int) < ((Zl A O).length : Int))
  generalize y % ((Zl A O).length : Int) = d at e1 e2
  have hi : d.toNat < (Zl A O).length := by omega
  obtain ⟨i, q1, q2, q3⟩ := Zl_get (List.getElem_mem hi)
  refine ⟨(Zl A O)[d.toNat], i, ?_, q1, q2, q3⟩
  have e : ((d.toNat : Nat) : Int) = d := by omega
  have z := atI_nat (xs := (Zl A O).map fun z => V.ref z.1.1) (j := d.toNat) (by rw [List.getElem?_map, List.getElem?_eq_getElem hi]; rfl)
  rw [e] at z
  exact z
theorem Law4.kill {C : Addr} {H H' : Hp} {st dx wl pl rl : Addr} {A : List (Addr × Addr)} {O : List Ob} {kvs : List (Key × V)} {least : Int} (L : Law4 C H st dx wl pl rl A O kvs least) {i : Nat} {a : Addr × Addr} {o : Ob} (ha : A[i]? = some a) (ho : O[i]? = some o) (hl : o.live = true)
    (S' : StoreAt H' C st dx wl pl 100000 100000 (if o.num < least then o.num else least) (flat O) (dropK kvs (.inl o.num))) (h1 : H' a.1 = some (.lst [.int o.num, .int o.kind, .ref a.2, .bl false])) (f : Fr (a.1 :: [st, wl, pl]) H H') :
    Law4 C H' st dx wl pl rl A (O.set i { o with live := false }) (dropK kvs (.inl o.num)) (if o.num < least then o.num else least) := by
  have mo := List.mem_of_getElem? ho
  refine ⟨by rw [flat_kill ho]; exact S', L.G.kill ho hl (L.nn o mo), L.R.setItem L.D ha ho rfl h1 f, L.D, fun x hx => ?_, fun x hx => ?_⟩
  · rcases List.mem_or_eq_of_mem_set hx with hx | rfl
    · exact L.sz x hx
    · exact L.sz o mo
  · rcases List.mem_or_eq_of_mem_set hx with hx | rfl
    · exact L.nn x hx
    · exact L.nn o mo
theorem Law4.swap {C : Addr} {H H4 : Hp} {st dx wl pl rl : Addr} {A : List (Addr × Addr)} {O : List Ob} {kvs : List (Key × V)} {least : Int} (L : Law4 C H st dx wl pl rl A O kvs least) {i j : Nat} {a b : Addr × Addr} {o p : Ob} (ha : A[i]? = some a) (ho : O[i]? = some o) (hb : A[j]? = some b) (hp : O[j]? = some p) (hl : o.live = true) (hl2 : p.live = true)
    (S' : StoreAt H4 C st dx wl pl 100000 100000 least (((flat O).set (off O i) p.num).set (off O j) o.num) (putK (putK kvs (.inl o.num) (.int (off O j : Nat))) (.inl p.num) (.int (off O i : Nat))))
    (R4 : RowAt H4 rl A (swapO O i j o p)) :
    Law4 C H4 st dx wl pl rl A (swapO O i j o p) (putK (putK kvs (.inl o.num) (.int (off O j : Nat))) (.inl p.num) (.int (off O i : Nat))) least := by
  have mo := List.mem_of_getElem? ho
  have mp := List.mem_of_getElem? hp
  have mm : ∀ x ∈ swapO O i j o p, x ∈ O ∨ x = { o with num := p.num } ∨ x = { p with num := o.num } := fun x hx => by
    rcases List.mem_or_eq_of_mem_set hx with hx | rfl
    · rcases List.mem_or_eq_of_mem_set hx with hx | rfl
      · exact Or.inl hx
      · exact Or.inr (Or.inl rfl)
    · exact Or.inr (Or.inr rfl)
  refine ⟨by rw [← swap_flat ho hp]; exact S', L.G.swap ho hp hl hl2, R4, L.D, fun x hx => ?_, fun x hx => ?_⟩
  · rcases mm x hx with hx | rfl | rfl
    · exact L.sz x hx
    · exact L.sz o mo
    · exact L.sz p mp
  · rcases mm x hx with hx | rfl | rfl
    · exact L.nn x hx
    · exact L.nn p mp
    · exact L.nn o mo
theorem get_snoc {α : Type} {l : List α} {x y : α} {k : Nat} (h : (l ++ [x])[k]? = some y) : l[k]? = some y ∨ k = l.length ∧ y = x := by
  by_cases hk : k < l.length
  · rw [List.getElem?_append_left hk] at h; exact Or.inl h
  · rw [List.getElem?_append_right (by omega)] at h
    have hlt := (List.getElem?_eq_some_iff.mp h).1
    have : k - l.length = 0 := by simpa using hlt
    rw [this] at h
    exact Or.inr ⟨by omega, by cases h; rfl⟩
theorem Law4.add {C : Addr} {H H' : Hp} {st dx wl pl rl : Addr} {A : List (Addr × Addr)} {O : List Ob} {kvs : List (Key × V)} {least : Int} (L : Law4 C H st dx wl pl rl A O kvs least) {a : Addr × Addr} {m x : Int} {z : Nat} (hz : z ≤ 39) (hn : valV kvs (.inl m) = none) (hs : Seen kvs m)
    (S' : StoreAt H' C st dx wl pl 100000 100000 m (flat O ++ (m :: (z : Int) :: x :: List.replicate z 0)) (putK kvs (.inl m) (.int ((flat O).length : Int)))) (h1 : H' a.1 = some (.lst [.int m, .int x, .ref a.2, .bl true])) (h2 : H' a.2 = some (.lst ((List.replicate z (0 : Int)).map V.int)))
    (hr : H' rl = some (.lst ((A ++ [a]).map fun a => V.ref a.1))) (f : Fr [st, wl, pl, rl] H H') (n1 : H a.1 = none) (n2 : H a.2 = none) (n12 : a.1 ≠ a.2) :
    Law4 C H' st dx wl pl rl (A ++ [a]) (O ++ [⟨m, x, List.replicate z 0, true⟩]) (putK kvs (.inl m) (.int ((flat O).length : Int))) m := by
  have there : ∀ b ∈ A, b.1 ≠ a.1 ∧ b.1 ≠ a.2 ∧ b.2 ≠ a.1 ∧ b.2 ≠ a.2 := fun b hb => by
    obtain ⟨i, hi⟩ := List.getElem?_of_mem hb
    have hl : i < O.length := by rw [← L.R.len]; exact (List.getElem?_eq_some_iff.mp hi).1
    obtain ⟨q1, q2⟩ := L.R.it i b _ hi (List.getElem?_eq_getElem hl)
    exact ⟨ne_of_none q1 n1, ne_of_none q1 n2, ne_of_none q2 n1, ne_of_none q2 n2⟩
  refine ⟨?_, L.G.add (o := ⟨m, x, List.replicate z 0, true⟩) rfl hn hs, ⟨hr, by rw [List.length_append, List.length_append, L.R.len]; rfl, fun i b o hb ho => ?_⟩, ⟨fun i j b c hb hc h => ?_, fun b c hb hc => ?_, fun b hb => ?_, L.D.d4, fun b hb => ?_⟩, fun o ho => ?_, fun o ho => ?_⟩
  · rw [flat_app]
    show StoreAt H' C st dx wl pl 100000 100000 m (flat O ++ (fl _ ++ [])) _
    rw [List.append_nil]
    unfold fl
    rw [List.length_replicate]
    exact S'
  · rcases get_snoc hb with hb | ⟨e, rfl⟩
    · have hl : i < O.length := by rw [← L.R.len]; exact (List.getElem?_eq_some_iff.mp hb).1
      rw [List.getElem?_append_left hl] at ho
      obtain ⟨q1, q2⟩ := L.R.it i b o hb ho
      have mb := List.mem_of_getElem? hb
      have d3 := L.D.d3 b mb
      have d5 := L.D.d5 b mb
      have g1 : b.1 ∉ [st, wl, pl, rl] := fun z => by
        rcases List.mem_append.mp (show b.1 ∈ [st, wl, pl] ++ [rl] from z) with z | z
        · exact d5.1 z
        · exact d3.1 (by simpa using z)
      have g2 : b.2 ∉ [st, wl, pl, rl] := fun z => by
        rcases List.mem_append.mp (show b.2 ∈ [st, wl, pl] ++ [rl] from z) with z | z
        · exact d5.2 z
        · exact d3.2 (by simpa using z)
      exact ⟨f _ _ q1 g1, f _ _ q2 g2⟩
    · rcases get_snoc ho with ho | ⟨e2, rfl⟩
      · have := (List.getElem?_eq_some_iff.mp ho).1
        rw [L.R.len] at e
        omega
      · exact ⟨h1, h2⟩
  · rcases get_snoc hb with hb' | ⟨e, e'⟩ <;> rcases get_snoc hc with hc' | ⟨e2, e2'⟩
    · exact L.D.d1 i j b c hb' hc' h
    · have t := there b (List.mem_of_getElem? hb')
      rw [e2'] at h
      rcases h with h | h
      · exact absurd h t.1
      · exact absurd h t.2.2.2
    · have t := there c (List.mem_of_getElem? hc')
      rw [e'] at h
      rcases h with h | h
      · exact absurd h.symm t.1
      · exact absurd h.symm t.2.2.2
    · omega
  · rcases List.mem_append.mp hb with hb' | hb' <;> rcases List.mem_append.mp hc with hc' | hc'
    · exact L.D.d2 b c hb' hc'
    · have e : c = a := by simpa using hc'
      rw [e]
      exact (there b hb').2.1
    · have e : b = a := by simpa using hb'
      rw [e]
      exact ((there c hc').2.2.1).symm
    · have e1 : b = a := by simpa using hb'
      have e2 : c = a := by simpa using hc'
      rw [e1, e2]
      exact n12
  · rcases List.mem_append.mp hb with hb | hb
    · exact L.D.d3 b hb
    · have e1 : b = a := by simpa using hb
      rw [e1]
      exact ⟨(ne_of_none L.R.rl n1).symm, (ne_of_none L.R.rl n2).symm⟩
  · rcases List.mem_append.mp hb with hb | hb
    · exact L.D.d5 b hb
    · have e1 : b = a := by simpa using hb
      rw [e1]
      have c1 : ∀ c, H c = none → c ∉ [st, wl, pl] := fun c hc hm => by
        have := L.S
        simp only [List.mem_cons, List.not_mem_nil, or_false] at hm
        rcases hm with rfl | rfl | rfl
        · rw [this.st] at hc; cases hc
        · rw [this.wl] at hc; cases hc
        · rw [this.pl] at hc; cases hc
      exact ⟨c1 _ n1, c1 _ n2⟩
  · rcases List.mem_append.mp ho with ho | ho
    · exact L.sz o ho
    · have e : o = ⟨m, x, List.replicate z 0, true⟩ := by simpa using ho
      rw [e]
      show (List.replicate z (0 : Int)).length ≤ 39
      rw [List.length_replicate]; exact hz
  · rcases List.mem_append.mp ho with ho | ho
    · exact L.nn o ho
    · have e : o = ⟨m, x, List.replicate z 0, true⟩ := by simpa using ho
      rw [e]
      exact hs.1


end LX
namespace LX
open PySem PySem.Spec PyProof.Rows L2 NdefX
def Live (O : List Ob) (n : Int) : Prop := ∃ (i : Nat) (o : Ob), O[i]? = some o ∧ o.live = true ∧ o.num = n
inductive Reach (O : List Ob) (rs : List Int) : Int → Prop where
  | root {w : Int} : w ∈ rs → w % 2 = 0 → Live O (w / 2) → Reach O rs (w / 2)
  | step {m w : Int} {i : Nat} {o : Ob} : Reach O rs m → O[i]? = some o → o.live = true → o.num = m → w ∈ o.kind :: o.sl → w % 2 = 0 → Live O (w / 2) → Reach O rs (w / 2)
theorem Reach.live {O : List Ob} {rs : List Int} {n : Int} (h : Reach O rs n) : Live O n := by cases h <;> assumption
theorem Good.iff {O : List Ob} {kvs : List (Key × V)} {least : Int} (G : Good O kvs least) (n : Int) : (valV kvs (.inl n)).isSome = true ↔ Live O n := by
  constructor
  · intro h
    obtain ⟨v, hv⟩ := Option.isSome_iff_exists.mp h
    obtain ⟨i, o, h1, h2, h3, _⟩ := (G.val _ _).mp hv
    exact ⟨i, o, h1, h2, (Sum.inl.inj h3).symm⟩
  · rintro ⟨i, o, h1, h2, rfl⟩
    rw [G.at h1 h2]; rfl
theorem nd_len {α : Type} [DecidableEq α] : ∀ (l m : List α), l.Nodup → (∀ x ∈ l, x ∈ m) → l.length ≤ m.length
  | [], _, _, _ => Nat.zero_le _
  | a :: l, m, h, hs => by
    obtain ⟨h1, h2⟩ := List.nodup_cons.mp h
    have hm := hs a List.mem_cons_self
    have := nd_len l (m.erase a) h2 fun x hx => (List.mem_erase_of_ne (fun e => h1 (by rw [← e]; exact hx))).mpr (hs x (List.mem_cons_of_mem _ hx))
    have hl := List.length_erase_of_mem hm
    have : 0 < m.length := List.length_pos_of_mem hm
    rw [List.length_cons]
    omega
theorem live_len {O : List Ob} {F : List Int} (h : F.Nodup) (hl : ∀ n ∈ F, Live O n) : F.length ≤ O.length := by
  have := nd_len F (O.map (·.num)) h fun n hn => by
    obtain ⟨i, o, h1, _, h3⟩ := hl n hn
    exact List.mem_map.mpr ⟨o, List.mem_of_getElem? h1, h3⟩
  rw [List.length_map] at this
  exact this
/-- the references among the words -/
def refs (ws : List Int) : List Int := (ws.filter fun w => decide (w % 2 = 0)).map (· / 2)
theorem mem_refs {ws : List Int} {n : Int} : n ∈ refs ws ↔ ∃ w, w ∈ ws ∧ w % 2 = 0 ∧ w / 2 = n := by
  unfold refs
  constructor
  · intro h
    obtain ⟨w, hw, e⟩ := List.mem_map.mp h
    obtain ⟨h1, h2⟩ := List.mem_filter.mp hw
    exact ⟨w, h1, of_decide_eq_true h2, e⟩
  · rintro ⟨w, h1, h2, e⟩
    exact List.mem_map.mpr ⟨w, List.mem_filter.mpr ⟨h1, decide_eq_true h2⟩, e⟩
theorem refs_len (ws : List Int) : (refs ws).length ≤ ws.length := by unfold refs; rw [List.length_map]; exact List.length_filter_le _ _
theorem refs_take_yes {ws : List Int} {i : Nat} {w : Int} (h : ws[i]? = some w) (he : w % 2 = 0) : refs (ws.take (i + 1)) = refs (ws.take i) ++ [w / 2] := by
  unfold refs
  rw [take_filter_yes h (decide_eq_true he), List.map_append]
  rfl
theorem refs_take_no {ws : List Int} {i : Nat} {w : Int} (h : ws[i]? = some w) (he : ¬ w % 2 = 0) : refs (ws.take (i + 1)) = refs (ws.take i) := by
  unfold refs
  rw [take_filter_no h (decide_eq_false he)]
/-- a search: found, waiting; part: the object whose words are not all looked at yet -/
structure Srch (O : List Ob) (rs F Wt : List Int) (part : Option (Int × List Int)) : Prop where
  nd : F.Nodup
  fr : ∀ n ∈ F, Reach O rs n
  wr : ∀ n ∈ Wt, Live O n → Reach O rs n
  root : ∀ w ∈ rs, w % 2 = 0 → Live O (w / 2) → w / 2 ∈ F ∨ w / 2 ∈ Wt
  clos : ∀ m ∈ F, ∀ (i : Nat) (o : Ob), O[i]? = some o → o.live = true → o.num = m → ∀ w ∈ (match part with | some (p, ws) => if m = p then ws else o.kind :: o.sl | none => o.kind :: o.sl), w % 2 = 0 → Live O (w / 2) → w / 2 ∈ F ∨ w / 2 ∈ Wt
theorem Srch.start (O : List Ob) (rs : List Int) : Srch O rs [] (refs rs) none := by
  refine ⟨List.nodup_nil, fun n h => by simp at h, fun n h hl => ?_, fun w h1 h2 _ => Or.inr (mem_refs.mpr ⟨w, h1, h2, rfl⟩), fun m h => by simp at h⟩
  obtain ⟨w, h1, h2, e⟩ := mem_refs.mp h
  subst e
  exact .root h1 h2 hl
theorem Srch.done {O : List Ob} {rs F : List Int} (S : Srch O rs F [] none) (n : Int) : n ∈ F ↔ Reach O rs n := by
  refine ⟨S.fr n, fun h => ?_⟩
  induction h with
  | root h1 h2 h3 => exact (S.root _ h1 h2 h3).resolve_right (by simp)
  | step h1 h2 h3 h4 h5 h6 h7 ih => exact (S.clos _ ih _ _ h2 h3 h4 _ h5 h6 h7).resolve_right (by simp)
theorem drop_last {α : Type} {l : List α} {x : α} (h : l[l.length - 1]? = some x) : l = l.dropLast ++ [x] := by
  have hne : l ≠ [] := fun e => by subst e; simp at h
  rw [← List.getLast?_eq_getElem?, List.getLast?_eq_some_getLast hne] at h
  cases h
  exact (List.dropLast_concat_getLast hne).symm
/-- the last one is known, or is none -/
theorem Srch.pop {O : List Ob} {rs F Wt : List Int} {n : Int} (S : Srch O rs F (Wt ++ [n]) none) (h : n ∈ F ∨ ¬ Live O n) : Srch O rs F Wt none := by
  have h2 : ∀ x, Live O x → x ∈ F ∨ x ∈ Wt ++ [n] → x ∈ F ∨ x ∈ Wt := fun x hx hh => by
    rcases hh with hh | hh
    · exact Or.inl hh
    · rcases List.mem_append.mp hh with hh | hh
      · exact Or.inr hh
      · have e : x = n := by simpa using hh
        subst e
        exact Or.inl (h.resolve_right fun z => z hx)
  exact ⟨S.nd, S.fr, fun m hm => S.wr m (List.mem_append_left _ hm), fun w h1 h2' h3 => h2 _ h3 (S.root w h1 h2' h3), fun m hm i o h1 h2' h3 w hw he hl => h2 _ hl (S.clos m hm i o h1 h2' h3 w hw he hl)⟩
/-- a new one is found -/
theorem Srch.find {O : List Ob} {rs F Wt : List Int} {n : Int} (S : Srch O rs F (Wt ++ [n]) none) (hn : n ∉ F) (hl : Live O n) : Srch O rs (F ++ [n]) Wt (some (n, [])) := by
  have h2 : ∀ x, x ∈ F ∨ x ∈ Wt ++ [n] → x ∈ F ++ [n] ∨ x ∈ Wt := fun x hh => by
    rcases hh with hh | hh
    · exact Or.inl (List.mem_append_left _ hh)
    · rcases List.mem_append.mp hh with hh | hh
      · exact Or.inr hh
      · exact Or.inl (List.mem_append_right _ hh)
  refine ⟨List.nodup_append.mpr ⟨S.nd, by simp, fun a ha b hb e => ?_⟩, fun m hm => ?_, fun m hm => S.wr m (List.mem_append_left _ hm), fun w h1 h2' h3 => h2 _ (S.root w h1 h2' h3), fun m hm i o h1 h3 h4 w hw he hlw => ?_⟩
  · have hb : b = n := by simpa using hb
    rw [e, hb] at ha
    exact hn ha
  · rcases List.mem_append.mp hm with hm | hm
    · exact S.fr m hm
    · have e : m = n := by simpa using hm
      rw [e]
      exact S.wr n (List.mem_append_right _ (by simp)) hl
  · by_cases e : m = n
    · simp only [if_pos e] at hw
      simp at hw
    · simp only [if_neg e] at hw
      rcases List.mem_append.mp hm with hm | hm
      · exact h2 _ (S.clos m hm i o h1 h3 h4 w hw he hlw)
      · exact absurd (by simpa using hm) e
/-- one more word of it is looked at -/
theorem Srch.word {O : List Ob} {rs F Wt Wt' ws : List Int} {n w : Int} (S : Srch O rs F Wt (some (n, ws))) (h1 : ∀ x ∈ Wt, x ∈ Wt') (h2 : ∀ x ∈ Wt', x ∈ Wt ∨ (Live O x → Reach O rs x)) (h3 : w % 2 = 0 → Live O (w / 2) → w / 2 ∈ F ∨ w / 2 ∈ Wt') : Srch O rs F Wt' (some (n, ws ++ [w])) := by
  refine ⟨S.nd, S.fr, fun m hm hl => ?_, fun w h4 h5 h6 => ?_, fun m hm i o h4 h5 h6 x hx he hl => ?_⟩
  · rcases h2 m hm with h | h
    · exact S.wr m h hl
    · exact h hl
  · exact (S.root w h4 h5 h6).imp id (h1 _)
  · have c := S.clos m hm i o h4 h5 h6
    by_cases e : m = n
    · simp only [if_pos e] at hx c
      rcases List.mem_append.mp hx with hx | hx
      · exact (c x hx he hl).imp id (h1 _)
      · have e : x = w := by simpa using hx
        subst e
        exact h3 he hl
    · simp only [if_neg e] at hx c
      exact (c x hx he hl).imp id (h1 _)
theorem Srch.all {O : List Ob} {rs F Wt : List Int} {n : Int} {i : Nat} {o : Ob} (U : ∀ (j : Nat) (p : Ob), O[j]? = some p → p.live = true → p.num = n → p = o) (S : Srch O rs F Wt (some (n, o.kind :: o.sl))) : Srch O rs F Wt none := by
  refine ⟨S.nd, S.fr, S.wr, S.root, fun m hm j p h1 h2 h3 w hw he hl => ?_⟩
  have c := S.clos m hm j p h1 h2 h3
  by_cases e : m = n
  · simp only [if_pos e] at c
    have := U j p h1 h2 (h3.trans e)
    subst this
    exact c w hw he hl
  · simp only [if_neg e] at c
    exact c w hw he hl
/-- all words at once -/
theorem Srch.words {O : List Ob} {rs F Wt : List Int} {n : Int} {i : Nat} {o : Ob} (S : Srch O rs F Wt (some (n, []))) (ho : O[i]? = some o) (hl : o.live = true) (hn : o.num = n) (hr : Reach O rs n) : Srch O rs F (Wt ++ refs (o.kind :: o.sl)) (some (n, o.kind :: o.sl)) := by
  have hh : ∀ x ∈ Wt ++ refs (o.kind :: o.sl), x ∈ Wt ∨ (Live O x → Reach O rs x) := fun x hx => by
    rcases List.mem_append.mp hx with hx | hx
    · exact Or.inl hx
    · obtain ⟨w, h1, h2, e⟩ := mem_refs.mp hx
      subst e
      exact Or.inr fun hl' => .step hr ho hl hn h1 h2 hl'
  refine ⟨S.nd, S.fr, fun m hm hl => ?_, fun w h4 h5 h6 => ?_, fun m hm j p h4 h5 h6 x hx he hlx => ?_⟩
  · rcases hh m hm with h | h
    · exact S.wr m h hl
    · exact h hl
  · exact (S.root w h4 h5 h6).imp id (List.mem_append_left _)
  · have c := S.clos m hm j p h4 h5 h6
    by_cases e : m = n
    · simp only [if_pos e] at hx
      exact Or.inr (List.mem_append_right _ (mem_refs.mpr ⟨x, hx, he, rfl⟩))
    · simp only [if_neg e] at hx c
      exact (c x hx he hlx).imp id (List.mem_append_left _)
/-- the dict of what is found -/
def dF (F : List Int) : List (Key × V) := F.map fun n => (.inl n, .bl true)
theorem dF_val (F : List Int) (m : Int) : valV (dF F) (.inl m) = if m ∈ F then some (.bl true) else none := by
  induction F with
  | nil => rfl
  | cons a r ih =>
    unfold dF at ih ⊢
    rw [List.map_cons]
    by_cases e : a = m
    · rw [valV_pos (p := (Sum.inl a, V.bl true)) (by rw [e]), if_pos (by rw [e]; exact List.mem_cons_self)]
    · rw [valV_neg (p := (Sum.inl a, V.bl true)) (fun z => e (Sum.inl.inj z)), ih]
      by_cases h : m ∈ r
      · rw [if_pos h, if_pos (List.mem_cons_of_mem _ h)]
      · rw [if_neg h, if_neg (fun z => (List.mem_cons.mp z).elim (fun z => e z.symm) h)]
theorem dF_put {F : List Int} {n : Int} (h : n ∉ F) : putK (dF F) (.inl n) (.bl true) = dF (F ++ [n]) := by
  rw [putK_new _ (by rw [dF_val, if_neg h])]
  unfold dF
  rw [List.map_append]
  rfl
/-- the size of the object of that number -/
def szf (O : List Ob) (n : Int) : Int := match O.find? fun o => o.live && decide (o.num = n) with
  | some o => 3 + (o.sl.length : Int)
  | none => 0
theorem szf_at {O : List Ob} {kvs : List (Key × V)} {least : Int} (G : Good O kvs least) {i : Nat} {o : Ob} (h : O[i]? = some o) (hl : o.live = true) : szf O o.num = 3 + (o.sl.length : Int) := by
  unfold szf
  cases e : O.find? fun p => p.live && decide (p.num = o.num) with
  | none =>
    have := List.find?_eq_none.mp e o (List.mem_of_getElem? h)
    simp [hl] at this
  | some p =>
    have h1 := List.find?_some e
    obtain ⟨j, hj⟩ := List.getElem?_of_mem (List.mem_of_find?_eq_some e)
    have h1 : p.live = true ∧ p.num = o.num := by simpa using h1
    have := G.un j i p o hj h h1.1 hl h1.2
    subst this
    rw [h] at hj
    cases hj
    rfl
theorem sum_perm {l m : List Int} (h : l.Perm m) : l.sum = m.sum := by
  induction h with
  | nil => rfl
  | cons x _ ih => rw [List.sum_cons, List.sum_cons, ih]
  | swap x y l => simp only [List.sum_cons]; omega
  | trans _ _ h1 h2 => rw [h1, h2]
theorem sorted_eq {l m : List Int} (h : l.Perm m) (hl : l.Pairwise (· ≤ ·)) (hm : m.Pairwise (· ≤ ·)) : l = m :=
  List.Perm.eq_of_pairwise (fun a b _ _ h1 h2 => Int.le_antisymm h1 h2) hl hm h
theorem perm_of {l m : List Int} (h1 : l.Nodup) (h2 : m.Nodup) (h : ∀ n, n ∈ l ↔ n ∈ m) : l.Perm m := (List.perm_ext_iff_of_nodup h1 h2).mpr h


end LX
namespace LX
open PySem PySem.Spec PyProof.Rows L2 NdefX
section
variable {P : Program} {w : World} {K : PySem.W.Frag} {mg : Str → Option Value} {base : Heap}
theorem iteNE {l : List V} {A B : Prop} (h : l ≠ []) (a : A) : if (!l.isEmpty) = true then A else B := by
  cases l with
  | nil => exact absurd rfl h
  | cons => exact iteT a
def sp_reached : Addr → Sp := fun C vs H Q _ => ∃ st dx wl pl room entries least O kvs ra, ∃ rs : List Int, vs = [.ref st, .ref ra] ∧ StoreAt H C st dx wl pl room entries least (flat O) kvs ∧ Good O kvs least ∧ (∀ o ∈ O, o.sl.length ≤ 39) ∧ O.length ≤ 80 ∧ IsI H ra rs ∧ rs.length ≤ 65 ∧
  ∀ D F H', H D = none → H' D = some (.dK (dF F)) → F.Nodup → (∀ n, n ∈ F ↔ Reach O rs n) → Fr [] H H' → Q (.ref D) H'
theorem ok_reached (W : WT P K mg base) : FnOk P w K mg base CX0 3 W.f_reached W.fd_reached ["store", "roots"] (sp_reached W.c_Store) := by
  refine W.F_reached.ok sc_reached (fun vs H Q E h => ?_) (fun cdv Ar outer s H vs Q E hr h => ?_)
  · obtain ⟨st, dx, wl, pl, room, entries, least, O, kvs, ra, rs, rfl, _⟩ := h
    rfl
  · obtain ⟨st, dx, wl, pl, room, entries, least, O, kvs, ra, rs, rfl, S, G, sz, hO, hra, hrs, k⟩ := h
    have hu1 := hu_of hr
    have hu64 := hu64_of hr
    refine ⟨_, (pss_cons (ps_set (i := 2) sc_reached.nd rfl (by first | exact Or.inl rfl | exact Or.inr rfl) pe_dnewK)
      (pss_cons (ps_setLc (i := 3) (own := [("word", 4)]) (g := gName 4)  rfl sc_reached.nd rfl rfl (sw_true rfl rfl rfl (by decide +kernel)) (pi_list (pv 1)) (blkOk_by (N := N_reached) (sc := defScope s_reached) (by decide +kernel)) (fun _ _ _ _ _ => (pg_name (i := 4) sc_reached.nd rfl (by first | exact Or.inl rfl | exact Or.inr rfl))) (fun _ _ _ _ _ => pts_one (pt_truthK (K := K) rfl (pe_call (ok_is_ref W) (hr.mono (by decide)) rfl W.g_is_ref W.F_is_ref.kp W.b_is_ref .nil pass0 (pa_cons (pv 4) pa_nil)) (by intro _; rfl))) (fun _ _ _ _ _ => (pe_call (ok_ref_of W) (hr.mono (by decide)) rfl W.g_ref_of W.F_ref_of.kp W.b_ref_of .nil pass0 (pa_cons (pv 4) pa_nil))))
      (pss_cons (ps_while PassesOwn.never (pt_truth (pv 3) (by intro _; rfl)) (pss_cons (ps_set (i := 5) sc_reached.nd rfl (by first | exact Or.inl rfl | exact Or.inr rfl) (pe_bm0 PySem.F.plainAttrs_list PySem.F.slot_list_pop PySem.F.type_list_pop mt_pop (pv 3) ))
      (pss_one (ps_if (PW.pt (pw_and (pt_cmpR (op_ninU hu1) (pv 5) (pv 2) (by first | exact nomark _ | rfl)) (pw_and1 (pt_truth (pe_meth (pv 0) W.C_Store W.m_Store_exists (ok_Store_exists W) (hr.mono (by decide)) W.b_Store_exists .nil pass0 (pa_cons (pv 5) pa_nil)) (by intro _; rfl))))) (pss_cons (ps_dput hu1 (pv 2) (pv 5) pe_bl rfl)
      (pss_one (ps_for PassesOwn.never rfl (pi_list (pe_op op_addU (pe_lst (pa_cons (pe_meth (pv 0) W.C_Store W.m_Store_kind (ok_Store_kind W) (hr.mono (by decide)) W.b_Store_kind .nil pass0 (pa_cons (pv 5) pa_nil)) pa_nil)) (pe_meth (pv 0) W.C_Store W.m_Store_slots (ok_Store_slots W) (hr.mono (by decide)) W.b_Store_slots .nil pass0 (pa_cons (pv 5) pa_nil)))) (pg_name (i := 4) sc_reached.nd rfl (by first | exact Or.inl rfl | exact Or.inr rfl)) (pss_one (ps_if (PW.pt (pw_and (pt_truth (pe_call (ok_is_ref W) (hr.mono (by decide)) rfl W.g_is_ref W.F_is_ref.kp W.b_is_ref .nil pass0 (pa_cons (pv 4) pa_nil)) (by intro _; rfl)) (pw_and1 (pt_cmpR (op_ninU hu1) (pe_call (ok_ref_of W) (hr.mono (by decide)) rfl W.g_ref_of W.F_ref_of.kp W.b_ref_of .nil pass0 (pa_cons (pv 4) pa_nil)) (pv 2) (by first | exact nomark _ | rfl))))) (pss_one (ps_expr (pe_bm PySem.F.plainAttrs_list PySem.F.slot_list_append PySem.F.type_list_append mt_append (pv 3) (pa_cons (pe_call (ok_ref_of W) (hr.mono (by decide)) rfl W.g_ref_of W.F_ref_of.kp W.b_ref_of .nil pass0 (pa_cons (pv 4) pa_nil)) pa_nil)))) pss_nil))))) pss_nil))))
      (pss_one (ps_ret (pv 2)))))), ?_⟩
    intro D hD
    have hra1 := Fr.new (F := []) (o := .dK []) hD ra _ hra (by simp)
    refine ⟨_, rfl, ra, rfl, ⟨_, SqL.of hra1⟩, fun wA hwA => ?_⟩
    have f1 : Fr [] H (upd H D (.dK [])) := Fr.new hD
    have hD1 : upd H D (.dK []) D = some (.dK []) := upd_same
    have hwA0 : H wA = none := by
      by_cases e : wA = D
      · rw [e]; exact hD
      · rw [upd_ne e] at hwA; exact hwA
    generalize upd H D (.dK []) = H1 at f1 hD1 hra1 hwA
    refine lc_list (K := K) (a := ra) (xs := rs.map V.int) (fun i H' => H' = upd H1 wA (.lst ((refs (rs.take i)).map V.int))) rfl (fun i H' _ e => ?_) (fun i x H' hx e => ?_) (fun H' e => ?_)
    · subst e
      exact SqL.of (Fr.new (F := []) (o := .lst ((refs (rs.take i)).map V.int)) hwA ra _ hra1 (by simp))
    · subst e
      rw [List.getElem?_map] at hx
      obtain ⟨n, hn, rfl⟩ := Option.map_eq_some_iff.mp hx
      have hlen : (refs (rs.take i)).length ≤ 65 := by
        have := refs_len (rs.take i)
        rw [List.length_take] at this
        omega
      refine ⟨rfl, ?_⟩
      refine ⟨_, rfl, n, rfl, ?_⟩
      refine ⟨_, rfl, ?_⟩
      refine iteD (fun he => ?_) (fun he => ?_)
      · refine ⟨_, rfl, n, rfl, he, ?_⟩
        refine ⟨_, upd_same, by rw [List.length_map, sizeLine_eq]; omega, ?_⟩
        rw [upd_upd, refs_take_yes hn he, List.map_append]; rfl
      · rw [refs_take_no hn he]
    · subst e
      rw [List.length_map, List.take_length]
      have hw2 : upd H1 wA (.lst ((refs rs).map V.int)) wA = some (.lst ((refs rs).map V.int)) := upd_same
      have f2 : Fr [] H1 (upd H1 wA (.lst ((refs rs).map V.int))) := Fr.new hwA
      have hD2 := f2 D _ hD1 (by simp)
      have f2 := f1.trans f2
      generalize upd H1 wA (.lst ((refs rs).map V.int)) = H2 at f2 hw2 hD2
      refine ⟨fun m σ H' => ∃ (F Wt : List Int) (v4 v5 : Option V), σ = [some (.ref st), some (.ref ra), some (.ref D), some (.ref wA), v4, v5] ∧ H' D = some (.dK (dF F)) ∧ H' wA = some (.lst (Wt.map V.int)) ∧ Fr [] H H' ∧ Srch O rs F Wt none ∧ m = (O.length - F.length) * 42 + Wt.length ∧ m ≤ 5000,
        ⟨_, [], refs rs, _, _, rfl, hD2, hw2, f2, Srch.start O rs, rfl, by have := refs_len rs; simp only [List.length_nil]; omega⟩, ?_⟩
      rintro m σ H3 ⟨F, Wt, v4, v5, rfl, hD3, hw3, f3, sr, rfl, hm⟩
      have S3 := S.keep f3 (by simp)
      refine ⟨_, rfl, _, Or.inl ⟨_, SqL.of hw3, rfl⟩, ?_⟩
      cases hW : Wt with
      | nil =>
        subst hW
        refine iteF ?_
        exact ⟨_, rfl, k D F H3 hD hD3 sr.nd sr.done f3⟩
      | cons y0 ys0 =>
        have hlast : ∃ n, Wt[Wt.length - 1]? = some n := ⟨_, List.getElem?_eq_getElem (by rw [hW]; simp)⟩
        rw [← hW]
        obtain ⟨n, hn⟩ := hlast
        have hne : Wt ≠ [] := by rw [hW]; simp
        have hdl := drop_last hn
        generalize hWt' : Wt.dropLast = Wt' at hdl
        have hl : Wt.length = Wt'.length + 1 := by rw [hdl, List.length_append]; rfl
        refine iteNE (by rw [hW]; simp) ?_
        refine ⟨_, fun _ _ z => z, ?_⟩
        refine ⟨_, rfl, Or.inl ⟨rfl, _, SqL.of hw3⟩, ?_⟩
        refine ⟨wA, _, .int n, rfl, rfl, hw3, by rw [List.length_map]; exact int_at hn, ?_⟩
        rw [← List.map_dropLast, hWt']
        have nDw : D ≠ wA := ne_of hD3 hw3 (by intro z; cases z)
        have hw4 : upd H3 wA (.lst (Wt'.map V.int)) wA = some (.lst (Wt'.map V.int)) := upd_same
        have hD4 : upd H3 wA (.lst (Wt'.map V.int)) D = some (.dK (dF F)) := by rw [upd_ne nDw]; exact hD3
        have f4 : Fr [] H (upd H3 wA (.lst (Wt'.map V.int))) := f3.skip hwA0
        generalize upd H3 wA (.lst (Wt'.map V.int)) = H4 at hw4 hD4 f4
        have S4 := S.keep f4 (by simp)
        rw [hdl] at sr
        refine ⟨_, rfl, _, rfl, Or.inr ⟨_, DGet.k (k := Sum.inl n) hD4, ?_⟩⟩
        rw [dF_val]
        refine ⟨_, rfl, ?_⟩
        have stop : n ∈ F ∨ ¬ Live O n → ∃ m', m' < (O.length - F.length) * 42 + Wt.length ∧ ∃ (F' Wt2 : List Int) (v4' v5' : Option V), [some (V.ref st), some (.ref ra), some (.ref D), some (.ref wA), v4, some (.int n)] = [some (V.ref st), some (.ref ra), some (.ref D), some (.ref wA), v4', v5'] ∧ H4 D = some (.dK (dF F')) ∧ H4 wA = some (.lst (Wt2.map V.int)) ∧ Fr [] H H4 ∧ Srch O rs F' Wt2 none ∧ m' = (O.length - F'.length) * 42 + Wt2.length ∧ m' ≤ 5000 := fun h =>
          ⟨(O.length - F.length) * 42 + Wt'.length, by omega, F, Wt', _, _, rfl, hD4, hw4, f4, sr.pop h, rfl, by omega⟩
        by_cases hF : n ∈ F
        · rw [if_pos hF]
          exact iteF (stop (Or.inl hF))
        rw [if_neg hF]
        refine iteT ?_
        refine ⟨_, rfl, st, dx, _, rfl, S4.st, rfl, ?_⟩
        refine ⟨_, rfl, ?_⟩
        refine ⟨st, dx, wl, pl, room, entries, least, _, kvs, n, rfl, S4, ?_⟩
        refine ⟨_, rfl, ?_⟩
        by_cases hv : (valV kvs (.inl n)).isSome = true
        · rw [hv]
          refine iteT ?_
          have hlv := (G.iff n).mp hv
          obtain ⟨i, o, ho, hlo, hon⟩ := hlv
          subst hon
          have hlv := (G.iff o.num).mp hv
          have so := sz o (List.mem_of_getElem? ho)
          have sr2 := sr.find hF hlv
          have hFl : F.length + 1 ≤ O.length := by
            have := live_len sr2.nd fun m hm => (sr2.fr m hm).live
            rw [List.length_append] at this
            exact this
          refine ⟨_, rfl, _, rfl, D, _, rfl, DPut.k (k := Sum.inl o.num) hD4 (by unfold dF; rw [List.length_map, sizeLine_eq]; omega), ?_⟩
          rw [dF_put hF]
          have hD5 : upd H4 D (.dK (dF (F ++ [o.num]))) D = some (.dK (dF (F ++ [o.num]))) := upd_same
          have hw5 : upd H4 D (.dK (dF (F ++ [o.num]))) wA = some (.lst (Wt'.map V.int)) := by rw [upd_ne nDw.symm]; exact hw4
          have f5 : Fr [] H (upd H4 D (.dK (dF (F ++ [o.num])))) := f4.skip hD
          generalize upd H4 D (.dK (dF (F ++ [o.num]))) = H5 at hD5 hw5 f5
          have S5 := S.keep f5 (by simp)
          refine ⟨_, rfl, st, dx, _, rfl, S5.st, rfl, ?_⟩
          refine ⟨_, rfl, ?_⟩
          refine ⟨st, dx, wl, pl, room, entries, least, _, kvs, o.num, off O i, o.kind, rfl, S5, G.at ho hlo, flat_kind ho, ?_⟩
          refine ⟨(by show 1 ≤ sizeLine; decide), fun l1 h1 => ?_⟩
          have g6 : Fr [] H5 (upd H5 l1 (.lst [V.int o.kind])) := Fr.new h1
          have hl1 : upd H5 l1 (.lst [V.int o.kind]) l1 = some (.lst [V.int o.kind]) := upd_same
          generalize upd H5 l1 (.lst [V.int o.kind]) = H6 at g6 hl1
          have f6 := f5.trans g6
          have S6 := S.keep f6 (by simp)
          refine ⟨_, rfl, st, dx, _, rfl, S6.st, rfl, ?_⟩
          refine ⟨_, rfl, ?_⟩
          refine ⟨st, dx, wl, pl, room, entries, least, _, kvs, o.num, off O i, o.sl.length, rfl, S6, G.at ho hlo, flat_size ho, off_lt ho, fun l2 h2 => ?_⟩
          rw [flat_slots ho]
          have g7 : Fr [] H6 (upd H6 l2 (.lst (o.sl.map V.int))) := Fr.new h2
          have hl2 : upd H6 l2 (.lst (o.sl.map V.int)) l2 = some (.lst (o.sl.map V.int)) := upd_same
          have hl1' := g7 _ _ hl1 (by simp)
          show rAddU K _ _ (upd H6 l2 (.lst (o.sl.map V.int))) _
          generalize upd H6 l2 (.lst (o.sl.map V.int)) = H7 at g7 hl2 hl1'
          have f7 := f6.trans g7
          refine Or.inl ⟨l1, l2, _, _, rfl, rfl, hl1', hl2, by rw [List.length_map, sizeLine_eq]; show 1 + o.sl.length ≤ _; omega, fun l3 h3 => ?_⟩
          have e3 : [V.int o.kind] ++ o.sl.map V.int = (o.kind :: o.sl).map V.int := rfl
          rw [e3]
          have g8 : Fr [] H7 (upd H7 l3 (.lst ((o.kind :: o.sl).map V.int))) := Fr.new h3
          have hl3 : upd H7 l3 (.lst ((o.kind :: o.sl).map V.int)) l3 = some (.lst ((o.kind :: o.sl).map V.int)) := upd_same
          have n3 : l3 ≠ wA := (ne_of_none (g7 _ _ (g6 _ _ hw5 (by simp)) (by simp)) h3).symm
          have hD8 := g8 _ _ (g7 _ _ (g6 _ _ hD5 (by simp)) (by simp)) (by simp)
          have hw8 := g8 _ _ (g7 _ _ (g6 _ _ hw5 (by simp)) (by simp)) (by simp)
          have f8 := f7.trans g8
          generalize upd H7 l3 (.lst ((o.kind :: o.sl).map V.int)) = H8 at g8 hl3 hD8 hw8 f8
          refine ⟨l3, rfl, ⟨_, SqL.of hl3⟩, ?_⟩
          refine for_list (K := K) (a := l3) (xs := (o.kind :: o.sl).map V.int) (fun j σ H' => ∃ (Wt2 : List Int) (v4 : Option V), σ = [some (.ref st), some (.ref ra), some (.ref D), some (.ref wA), v4, some (.int o.num)] ∧ H' D = some (.dK (dF (F ++ [o.num]))) ∧ H' wA = some (.lst (Wt2.map V.int)) ∧ H' l3 = some (.lst ((o.kind :: o.sl).map V.int)) ∧ Fr [] H H' ∧ Srch O rs (F ++ [o.num]) Wt2 (some (o.num, (o.kind :: o.sl).take j)) ∧ Wt2.length ≤ Wt'.length + j)
            ⟨Wt', _, rfl, hD8, hw8, hl3, f8, sr2, by omega⟩ (fun j σ H9 _ hI => ?_) (fun j x σ H9 hx hI => ?_) (fun σ H9 hI => ?_)
          · obtain ⟨Wt2, v4', rfl, a1, a2, a3, a4, a5, a6⟩ := hI
            exact SqL.of a3
          · obtain ⟨Wt2, v4', rfl, a1, a2, a3, a4, a5, a6⟩ := hI
            rw [List.getElem?_map] at hx
            obtain ⟨y, hy, rfl⟩ := Option.map_eq_some_iff.mp hx
            have hj : j < (o.kind :: o.sl).length := (List.getElem?_eq_some_iff.mp hy).1
            rw [List.length_cons] at hj
            have htk : (o.kind :: o.sl).take (j + 1) = (o.kind :: o.sl).take j ++ [y] := by rw [List.take_succ, hy]; rfl
            have hmem : y ∈ o.kind :: o.sl := List.mem_of_getElem? hy
            refine ⟨_, rfl, y, rfl, ?_⟩
            refine ⟨_, rfl, ?_⟩
            refine iteD (fun he => ?_) (fun he => ?_)
            · refine ⟨_, rfl, y, rfl, he, ?_⟩
              refine ⟨_, rfl, Or.inr ⟨_, DGet.k (k := Sum.inl (y / 2)) a1, ?_⟩⟩
              rw [dF_val]
              refine ⟨_, rfl, ?_⟩
              by_cases hy2 : y / 2 ∈ F ++ [o.num]
              · rw [if_pos hy2]
                refine iteF ⟨Wt2, _, rfl, a1, a2, a3, a4, ?_, by omega⟩
                rw [htk]
                exact a5.word (fun x h => h) (fun x h => Or.inl h) fun _ _ => Or.inl hy2
              · rw [if_neg hy2]
                refine iteT ?_
                refine ⟨_, rfl, Or.inl ⟨rfl, _, SqL.of a2⟩, ?_⟩
                refine ⟨_, rfl, y, rfl, he, ?_⟩
                refine ⟨wA, _, _, rfl, rfl, a2, by rw [List.length_map, sizeLine_eq]; omega, ?_⟩
                have e4 : Wt2.map V.int ++ [V.int (y / 2)] = (Wt2 ++ [y / 2]).map V.int := by rw [List.map_append]; rfl
                rw [e4]
                refine ⟨Wt2 ++ [y / 2], _, rfl, by rw [upd_ne nDw]; exact a1, upd_same, by rw [upd_ne n3]; exact a3, a4.skip hwA0, ?_, by rw [List.length_append]; show Wt2.length + 1 ≤ _; omega⟩
                rw [htk]
                refine a5.word (fun x h => List.mem_append_left _ h) (fun x h => ?_) fun _ _ => Or.inr (List.mem_append_right _ (by simp))
                rcases List.mem_append.mp h with h | h
                · exact Or.inl h
                · have e : x = y / 2 := by simpa using h
                  rw [e]
                  exact Or.inr fun hl => .step (sr2.fr o.num (List.mem_append_right _ (by simp))) ho hlo rfl hmem he hl
            · refine ⟨Wt2, _, rfl, a1, a2, a3, a4, ?_, by omega⟩
              rw [htk]
              exact a5.word (fun x h => h) (fun x h => Or.inl h) fun h _ => absurd h he
          · obtain ⟨Wt2, v4', rfl, a1, a2, a3, a4, a5, a6⟩ := hI
            rw [List.length_map, List.take_length] at a5
            rw [List.length_map, List.length_cons] at a6
            refine ⟨(O.length - (F ++ [o.num]).length) * 42 + Wt2.length, ?_, F ++ [o.num], Wt2, _, _, rfl, a1, a2, a4, a5.all (i := i) (fun j p h1 h2 h3 => ?_), rfl, ?_⟩
            · rw [List.length_append]; show (O.length - (F.length + 1)) * 42 + _ < _; omega
            · have := G.un j i p o h1 ho h2 hlo h3
              subst this
              rw [ho] at h1; cases h1; rfl
            · rw [List.length_append]; show (O.length - (F.length + 1)) * 42 + _ ≤ _; omega
        · have hv' : (valV kvs (.inl n)).isSome = false := by simpa using hv
          rw [hv']
          exact iteF (stop (Or.inr fun h => hv ((G.iff n).mpr h)))
end

end LX
namespace LX
open PySem PySem.Spec PyProof.Rows L2 NdefX
def lvF : Nat → List Ob → List (Ob × Nat)
  | _, [] => []
  | p, a :: r => if a.live = true then (a, p) :: lvF (p + (fl a).length) r else lvF (p + (fl a).length) r
theorem lvF_cons (p : Nat) (a : Ob) (r : List Ob) : lvF p (a :: r) = if a.live = true then (a, p) :: lvF (p + (fl a).length) r else lvF (p + (fl a).length) r := rfl
theorem lvF_ob : ∀ (p : Nat) (O : List Ob), (lvF p O).map (·.1) = O.filter (·.live)
  | _, [] => rfl
  | p, a :: r => by
    have ih := lvF_ob (p + (fl a).length) r
    rw [lvF_cons]
    by_cases h : a.live = true
    · rw [if_pos h, List.map_cons, ih, List.filter_cons_of_pos (by exact h)]
    · rw [if_neg h, ih, List.filter_cons_of_neg (by exact h)]
theorem off_cons (a : Ob) (r : List Ob) (i : Nat) : off (a :: r) (i + 1) = (fl a).length + off r i := by
  unfold off
  rw [List.take_succ_cons, flat_cons, List.length_append]
theorem lvF_mem : ∀ (p : Nat) (O : List Ob) (z : Ob × Nat), z ∈ lvF p O ↔ ∃ i : Nat, O[i]? = some z.1 ∧ z.1.live = true ∧ z.2 = p + off O i
  | p, [], z => by simp [lvF]
  | p, a :: r, z => by
    have ih := lvF_mem (p + (fl a).length) r z
    have tail : (∃ i : Nat, r[i]? = some z.1 ∧ z.1.live = true ∧ z.2 = p + (fl a).length + off r i) ↔ ∃ i : Nat, (a :: r)[i + 1]? = some z.1 ∧ z.1.live = true ∧ z.2 = p + off (a :: r) (i + 1) := by
      constructor
      · rintro ⟨i, h1, h2, h3⟩
        exact ⟨i, h1, h2, by rw [off_cons, h3]; omega⟩
      · rintro ⟨i, h1, h2, h3⟩
        exact ⟨i, h1, h2, by rw [h3, off_cons]; omega⟩
    have all : (∃ i : Nat, (a :: r)[i]? = some z.1 ∧ z.1.live = true ∧ z.2 = p + off (a :: r) i) ↔ (a = z.1 ∧ z.1.live = true ∧ z.2 = p) ∨ ∃ i : Nat, (a :: r)[i + 1]? = some z.1 ∧ z.1.live = true ∧ z.2 = p + off (a :: r) (i + 1) := by
      constructor
      · rintro ⟨i, h1, h2, h3⟩
        cases i with
        | zero => exact Or.inl ⟨Option.some.inj h1, h2, by rw [h3]; rfl⟩
        | succ i => exact Or.inr ⟨i, h1, h2, h3⟩
      · rintro (⟨h1, h2, h3⟩ | ⟨i, h1, h2, h3⟩)
        · exact ⟨0, congrArg some h1, h2, by rw [h3]; rfl⟩
        · exact ⟨i + 1, h1, h2, h3⟩
    rw [all, ← tail, ← ih]
    rw [lvF_cons]
    by_cases h : a.live = true
    · rw [if_pos h, List.mem_cons]
      constructor
      · rintro (e | e)
        · subst e; exact Or.inl ⟨rfl, h, rfl⟩
        · exact Or.inr e
      · rintro (⟨h1, h2, h3⟩ | e)
        · left
          obtain ⟨z1, z2⟩ := z
          have h1 : a = z1 := h1
          have h3 : z2 = p := h3
          rw [h1, h3]
        · exact Or.inr e
    · rw [if_neg h]
      constructor
      · exact Or.inr
      · rintro (⟨h1, h2, h3⟩ | e)
        · rw [h1] at h; exact absurd h2 h
        · exact e
theorem lvF_lt : ∀ (p : Nat) (O : List Ob), (lvF p O).Pairwise (fun x y => x.2 < y.2) ∧ ∀ z ∈ lvF p O, p ≤ z.2
  | _, [] => ⟨List.Pairwise.nil, fun z h => by simp [lvF] at h⟩
  | p, a :: r => by
    obtain ⟨h1, h2⟩ := lvF_lt (p + (fl a).length) r
    have hl := fl_len a
    rw [lvF_cons]
    by_cases h : a.live = true
    · rw [if_pos h]
      refine ⟨List.pairwise_cons.mpr ⟨fun z hz => ?_, h1⟩, fun z hz => ?_⟩
      · have := h2 z hz
        show p < z.2
        omega
      · rcases List.mem_cons.mp hz with e | hz
        · rw [e]; exact Nat.le_refl _
        · have := h2 z hz
          omega
    · rw [if_neg h]
      exact ⟨h1, fun z hz => by have := h2 z hz; omega⟩
theorem lvF_app : ∀ (p : Nat) (A B : List Ob), lvF p (A ++ B) = lvF p A ++ lvF (p + (flat A).length) B
  | p, [], B => by simp [lvF, flat]
  | p, a :: r, B => by
    have ih := lvF_app (p + (fl a).length) r B
    rw [List.cons_append, lvF_cons, lvF_cons, ih, flat_cons, List.length_append, Nat.add_assoc]
    split <;> rfl
def tbl (O : List Ob) : List (Int × Int) := (lvF 0 O).map fun z => (z.1.num, (z.2 : Int))
theorem tbl_fst (O : List Ob) : (tbl O).map (·.1) = (O.filter (·.live)).map (·.num) := by
  unfold tbl
  rw [← lvF_ob 0 O, List.map_map, List.map_map]; rfl
theorem tbl_mem (O : List Ob) (n p : Int) : (n, p) ∈ tbl O ↔ ∃ (i : Nat) (o : Ob), O[i]? = some o ∧ o.live = true ∧ n = o.num ∧ p = (off O i : Nat) := by
  unfold tbl
  constructor
  · intro h
    obtain ⟨z, hz, e⟩ := List.mem_map.mp h
    obtain ⟨i, h1, h2, h3⟩ := (lvF_mem 0 O z).mp hz
    cases e
    exact ⟨i, z.1, h1, h2, rfl, by rw [h3, Nat.zero_add]⟩
  · rintro ⟨i, o, h1, h2, rfl, rfl⟩
    exact List.mem_map.mpr ⟨(o, off O i), (lvF_mem 0 O _).mpr ⟨i, h1, h2, by rw [Nat.zero_add]⟩, rfl⟩
theorem tbl_lt (O : List Ob) : (tbl O).Pairwise (fun x y => x.2 < y.2) := by
  unfold tbl
  exact List.pairwise_map.mpr ((lvF_lt 0 O).1.imp fun h => by show ((_ : Nat) : Int) < ((_ : Nat) : Int); omega)
theorem tbl_snoc (A : List Ob) (a : Ob) (h : a.live = true) : tbl (A ++ [a]) = tbl A ++ [(a.num, ((flat A).length : Int))] := by
  unfold tbl
  rw [lvF_app, List.map_append]
  congr 1
  show (lvF (0 + (flat A).length) [a]).map _ = _
  rw [lvF_cons, if_pos h, Nat.zero_add]
  rfl
theorem pw_inj {l : List (Int × Int)} (h : l.Pairwise (fun x y => x.2 < y.2)) {a b : Int × Int} (ha : a ∈ l) (hb : b ∈ l) (e : a.2 = b.2) : a = b := by
  induction l with
  | nil => simp at ha
  | cons x r ih =>
    obtain ⟨h1, h2⟩ := List.pairwise_cons.mp h
    rcases List.mem_cons.mp ha with ea | ea <;> rcases List.mem_cons.mp hb with eb | eb
    · rw [ea, eb]
    · have := h1 b eb; rw [← ea] at this; omega
    · have := h1 a ea; rw [← eb] at this; omega
    · exact ih h2 ea eb
theorem by_place {O : List Ob} {ys : List (Int × Int)} (h : ys.Perm (tbl O)) (hp : ys.Pairwise (fun x y => x.2 ≤ y.2)) : ys = tbl O :=
  List.Perm.eq_of_pairwise (le := fun x y : Int × Int => x.2 ≤ y.2) (fun a b ha hb h1 h2 => pw_inj (tbl_lt O) (h.mem_iff.mp ha) hb (by omega)) hp ((tbl_lt O).imp fun h => by omega) h
theorem mem_valV {κ : Type} [DecidableEq κ] {kvs : List (κ × V)} {k : κ} {v : V} (nd : (kvs.map (·.1)).Nodup) (h : (k, v) ∈ kvs) : valV kvs k = some v := by
  induction kvs with
  | nil => simp at h
  | cons p r ih =>
    obtain ⟨h1, h2⟩ := List.nodup_cons.mp nd
    rcases List.mem_cons.mp h with e | e
    · subst e; exact valV_pos rfl
    · rw [valV_neg (fun z => h1 (by show p.1 ∈ _; rw [z]; exact List.mem_map.mpr ⟨_, e, rfl⟩))]
      exact ih h2 e
theorem pD_of {l : List (Key × V)} (h : ∀ p ∈ l, ∃ n i : Int, p = (.inl n, .int i)) : ∃ ps, l = pD ps := by
  induction l with
  | nil => exact ⟨[], rfl⟩
  | cons a r ih =>
    obtain ⟨n, i, e⟩ := h a List.mem_cons_self
    obtain ⟨ps, e2⟩ := ih fun p hp => h p (List.mem_cons_of_mem _ hp)
    exact ⟨(n, i) :: ps, by rw [e, e2]; rfl⟩
theorem pD_keys (ps : List (Int × Int)) : (pD ps).map (·.1) = (ps.map (·.1)).map Sum.inl := by unfold pD; rw [List.map_map, List.map_map]; rfl
theorem pD_nd {ps : List (Int × Int)} : ((pD ps).map (·.1)).Nodup ↔ (ps.map (·.1)).Nodup := by
  rw [pD_keys]
  constructor
  · exact fun h => (List.pairwise_map.mp h).imp fun h e => h (by rw [e])
  · exact fun h => List.pairwise_map.mpr (h.imp fun h e => h (Sum.inl.inj e))
theorem pD_iff {ps : List (Int × Int)} (nd : (ps.map (·.1)).Nodup) (k : Key) (v : V) : valV (pD ps) k = some v ↔ ∃ n i : Int, (n, i) ∈ ps ∧ k = .inl n ∧ v = .int i := by
  constructor
  · intro h
    obtain ⟨p, hp, e⟩ := List.mem_map.mp (show (k, v) ∈ ps.map _ from val_mem h)
    cases e
    exact ⟨p.1, p.2, hp, rfl, rfl⟩
  · rintro ⟨n, i, h, rfl, rfl⟩
    exact pD_val nd h
theorem Good.pairs {O : List Ob} {kvs : List (Key × V)} {least : Int} (G : Good O kvs least) : ∃ ps, kvs = pD ps ∧ (ps.map (·.1)).Nodup ∧ ps.Perm (tbl O) := by
  obtain ⟨ps, rfl⟩ := pD_of (l := kvs) fun p hp => by
    obtain ⟨i, o, h1, h2, h3, h4⟩ := (G.val p.1 p.2).mp (mem_valV G.nd hp)
    exact ⟨o.num, (off O i : Nat), by rw [← h3, ← h4]⟩
  have nd := pD_nd.mp G.nd
  refine ⟨ps, rfl, nd, ?_⟩
  have n1 : ps.Nodup := (List.pairwise_map.mp nd).imp fun h e => h (by rw [e])
  have n2 : (tbl O).Nodup := (tbl_lt O).imp fun h e => by rw [e] at h; omega
  refine (List.perm_ext_iff_of_nodup n1 n2).mpr fun z => ?_
  obtain ⟨n, p⟩ := z
  rw [tbl_mem]
  constructor
  · intro h
    obtain ⟨i, o, h1, h2, h3, h4⟩ := (G.val _ _).mp (pD_val nd h)
    exact ⟨i, o, h1, h2, Sum.inl.inj h3, V.int.inj h4⟩
  · rintro ⟨i, o, h1, h2, rfl, rfl⟩
    obtain ⟨n, i, h, e1, e2⟩ := (pD_iff nd _ _).mp (G.at h1 h2)
    cases e1
    cases e2
    exact h
theorem Good.nums {O : List Ob} {kvs : List (Key × V)} {least : Int} (G : Good O kvs least) : ((O.filter (·.live)).map (·.num)).Nodup := by
  obtain ⟨ms, m1, m2⟩ := G.ints
  have ndm : ms.Nodup := by
    have := G.nd
    rw [m1] at this
    exact (List.pairwise_map.mp this).imp fun h e => h (by rw [e])
  exact m2.nodup_iff.mp ndm
theorem all_live {O : List Ob} : ∀ o ∈ O.filter (·.live), o.live = true := fun o ho => (List.mem_filter.mp ho).2
theorem Good.close {O : List Ob} {kvs : List (Key × V)} {least : Int} (G : Good O kvs least) : Good (O.filter (·.live)) (pD (tbl (O.filter (·.live)))) least := by
  have e1 : (tbl (O.filter (·.live))).map (·.1) = (O.filter (·.live)).map (·.num) := by rw [tbl_fst, List.filter_filter]; simp
  have nd : ((tbl (O.filter (·.live))).map (·.1)).Nodup := by rw [e1]; exact G.nums
  refine ⟨fun k v => ?_, pD_nd.mpr nd, fun i j o p hi hj _ _ e => ?_, G.seen.1, fun n h0 h1 => ?_⟩
  · rw [pD_iff nd]
    constructor
    · rintro ⟨n, i, h, rfl, rfl⟩
      obtain ⟨j, o, h1, h2, rfl, rfl⟩ := (tbl_mem _ _ _).mp h
      exact ⟨j, o, h1, h2, rfl, rfl⟩
    · rintro ⟨j, o, h1, h2, rfl, rfl⟩
      exact ⟨_, _, (tbl_mem _ _ _).mpr ⟨j, o, h1, h2, rfl, rfl⟩, rfl, rfl⟩
  · have hl := (List.getElem?_eq_some_iff.mp hi).1
    refine (List.getElem?_inj (l := (O.filter (·.live)).map (·.num)) (by rw [List.length_map]; exact hl) G.nums).mp ?_
    rw [List.getElem?_map, List.getElem?_map, hi, hj, Option.map_some, Option.map_some, e]
  · have := G.seen.2 n h0 h1
    obtain ⟨i, o, h2, h3, rfl⟩ := (G.iff n).mp this
    have hm : o ∈ O.filter (·.live) := List.mem_filter.mpr ⟨List.mem_of_getElem? h2, h3⟩
    obtain ⟨j, hj⟩ := List.getElem?_of_mem hm
    rw [(pD_iff nd _ _).mpr ⟨o.num, _, (tbl_mem _ _ _).mpr ⟨j, o, hj, h3, rfl, rfl⟩, rfl, rfl⟩]
    rfl
/-- one is dropped -/
theorem kill_filter {O : List Ob} {kvs : List (Key × V)} {least : Int} (G : Good O kvs least) {i : Nat} {o : Ob} (h : O[i]? = some o) (ho : o.live = true) : (O.set i { o with live := false }).filter (·.live) = (O.filter (·.live)).filter fun p => !decide (p.num = o.num) := by
  have hi := (List.getElem?_eq_some_iff.mp h).1
  have e : O = O.take i ++ o :: O.drop (i + 1) := split_at h
  rw [List.set_eq_take_append_cons_drop, if_pos hi]
  have key : ∀ j p, O[j]? = some p → j ≠ i → p.live = true → ¬ p.num = o.num := fun j p hj ne lp en => ne (G.un j i p o hj h lp ho en)
  have k1 : (O.take i).filter (·.live) = ((O.take i).filter (·.live)).filter fun p => !decide (p.num = o.num) := by
    refine (List.filter_eq_self.mpr fun p hp => ?_).symm
    obtain ⟨h1, h2⟩ := List.mem_filter.mp hp
    obtain ⟨j, hj⟩ := List.getElem?_of_mem h1
    rw [List.getElem?_take] at hj
    split at hj
    · simp [key j p hj (by omega) h2]
    · cases hj
  have k2 : (O.drop (i + 1)).filter (·.live) = ((O.drop (i + 1)).filter (·.live)).filter fun p => !decide (p.num = o.num) := by
    refine (List.filter_eq_self.mpr fun p hp => ?_).symm
    obtain ⟨h1, h2⟩ := List.mem_filter.mp hp
    obtain ⟨j, hj⟩ := List.getElem?_of_mem h1
    rw [List.getElem?_drop] at hj
    simp [key _ p hj (by omega) h2]
  conv => rhs; rw [e]
  rw [List.filter_append, List.filter_append, List.filter_append, List.filter_cons_of_neg (by simp), List.filter_cons_of_pos (by exact ho), List.filter_cons_of_neg (by simp), ← k1, ← k2]


end LX
namespace LX
open PySem PySem.Spec PyProof.Rows L2 NdefX
/-- every old thing outside of F is kept, but for tables -/
def FrN (F : List Addr) (H H' : Hp) : Prop := ∀ b o, H b = some o → b ∉ F → (∀ ps, o ≠ .tbl ps) → H' b = some o
theorem Fr.n {F : List Addr} {H H' : Hp} (f : Fr F H H') : FrN F H H' := fun b o e n _ => f b o e n
theorem FrN.trans {F : List Addr} {H H1 H2 : Hp} (a : FrN F H H1) (b : FrN F H1 H2) : FrN F H H2 := fun c o e n t => b c o (a c o e n t) n t
theorem FrN.mono {F G : List Addr} {H H' : Hp} (a : FrN F H H') (h : ∀ b, b ∈ F → b ∈ G) : FrN G H H' := fun c o e n t => a c o e (fun m => n (h c m)) t
theorem FrN.lst {F : List Addr} {H H' : Hp} (a : FrN F H H') {b : Addr} {xs : List V} (e : H b = some (.lst xs)) (n : b ∉ F) : H' b = some (.lst xs) := a b _ e n (by intro ps z; cases z)
theorem tab_out {F : List Addr} {H H' : Hp} {P : Addr} {q : Str} (t : LamX.TabS H P q) (f : Fr F H H') (hF : ∀ b ∈ F, ∃ o, H b = some o ∧ (∀ ps, o ≠ .tbl ps) ∧ (∀ φ, o ≠ .ext φ)) : LamX.TabS H' P q := by
  obtain ⟨ps, h1, h2, h3⟩ := t
  refine ⟨ps, f _ _ h1 fun hm => ?_, h2, fun pos cv hc => ?_⟩
  · obtain ⟨o, e, n, _⟩ := hF _ hm
    rw [h1] at e
    exact n ps (Option.some.inj e).symm
  · obtain ⟨c, e1, e2⟩ := h3 pos cv hc
    refine ⟨c, e1, f _ _ e2 fun hm => ?_⟩
    obtain ⟨o, e, _, n⟩ := hF _ hm
    rw [e2] at e
    exact n _ (Option.some.inj e).symm
theorem StoreAt.keepN {H H' : Hp} {C st dx wl pl : Addr} {room entries least : Int} {ws : List Int} {kvs : List (Key × V)} (S : StoreAt H C st dx wl pl room entries least ws kvs) (f : LamX.ExtN H H') : StoreAt H' C st dx wl pl room entries least ws kvs :=
  ⟨f _ _ S.st (by intro ps z; cases z), f _ _ S.wl (by intro ps z; cases z), f _ _ S.pl (by intro ps z; cases z)⟩
section
variable {P : Program} {w : World} {K : PySem.W.Frag} {mg : Str → Option Value} {base : Heap}
theorem seg_fl {O : List Ob} {i : Nat} {o : Ob} (h : O[i]? = some o) : seg (flat O) (off O i) (3 + o.sl.length) = fl o := by
  unfold seg
  rw [flat_split h]
  unfold off
  rw [List.drop_left, ← fl_len, List.take_left]
def sp_close (C PT : Addr) : Sp := fun vs H Q _ => ∃ st dx wl pl room entries least kvs O, vs = [.ref st] ∧ StoreAt H C st dx wl pl room entries least (flat O) kvs ∧ Good O kvs least ∧ (flat O).length ≤ 100000 ∧ O.length ≤ 1000 ∧ LamX.TabS H PT qLam ∧
  ∀ H' wl' pl', StoreAt H' C st dx wl' pl' room entries least (flat (O.filter (·.live))) (pD (tbl (O.filter (·.live)))) → LamX.TabS H' PT qLam → FrN [st] H H' → H wl' = none → H pl' = none → Q .non H'
theorem ok_Store_close_up (W : WT P K mg base) : FnOk P w K mg base CX0 1 W.f_Store_close_up W.fd_Store_close_up ["self"] (sp_close W.c_Store W.PT_Store_close_up) := by
  refine W.G_Store_close_up.ok sc_Store_close_up (fun vs H Q E h => ?_) (fun A outer s H vs Q E hr h => ?_)
  · obtain ⟨st, dx, wl, pl, room, entries, least, kvs, O, rfl, _⟩ := h
    rfl
  · obtain ⟨st, dx, wl, pl, room, entries, least, kvs, O, rfl, S, G, hfl, hO, hT, k⟩ := h
    have hu1 := hu_of hr
    have hu64 := hu64_of hr
    refine ⟨_, (pss_cons (ps_set (i := 1) sc_Store_close_up.nd rfl (by first | exact Or.inl rfl | exact Or.inr rfl) (pe_lst pa_nil))
      (pss_cons (ps_set (i := 2) sc_Store_close_up.nd rfl (by first | exact Or.inl rfl | exact Or.inr rfl) pe_dnewK)
      (pss_cons (ps_set (i := 3) sc_Store_close_up.nd rfl (by first | exact Or.inl rfl | exact Or.inr rfl) (pe_fld (pv 0) rfl))
      (pss_cons (ps_for PassesOwn.never rfl (pi_list (pe_sortKeyLam (T := [(W.PT_Store_close_up, qLam)]) (c := W.cA_Store_close_up) (P := W.PT_Store_close_up) (i := 3) (x := "old") (y := "number") rfl hr rfl W.n_sorted rfl rfl W.TB rfl (List.mem_singleton.mpr rfl) (fun p hp _ => by cases List.mem_singleton.mp hp; rfl) rfl rfl rfl rfl (by decide +kernel) rfl rfl (by intro z hz e; rcases List.mem_cons.mp hz with h | h; (subst h; cases e); (cases List.mem_singleton.mp h; exact Or.inl rfl)) (fun _ _ _ _ _ _ => rfl) (by decide) (by decide) (by decide))) (pg_name (i := 4) sc_Store_close_up.nd rfl (by first | exact Or.inl rfl | exact Or.inr rfl)) (pss_cons (ps_set (i := 5) sc_Store_close_up.nd rfl (by first | exact Or.inl rfl | exact Or.inr rfl) (pe_ix (ix_U hu1) (pv 3) (pv 4) (fun _ _ => rfl)))
      (pss_cons (ps_dput hu1 (pv 2) (pv 4) (pe_callB call_lenU (by rfl) W.n_len bb_len (pa_cons (pv 1) pa_nil)) rfl)
      (pss_one (ps_expr (pe_bm PySem.F.plainAttrs_list PySem.F.slot_list_extend PySem.F.type_list_extend mt_extend (pv 1) (pa_cons (pe_slice sl_U (pe_fld (pv 0) rfl) (po_some (pv 5)) (po_some (pe_op op_addU (pe_op op_addU (pv 5) (pe_gi rfl W.g_HEADER)) (pe_ix (ix_U hu1) (pe_fld (pv 0) rfl) (pe_op op_addU (pv 5) pe_int) (fun _ _ => rfl))))) pa_nil)))))))
      (pss_cons (ps_fld (pv 0) (pv 1) rfl)
      (pss_one (ps_fld (pv 0) (pv 2) rfl))))))), ?_⟩
    refine ⟨(by show 0 ≤ sizeLine; decide), fun wn hwn => ?_⟩
    have f1 : Fr [] H (upd H wn (.lst [])) := Fr.new hwn
    have hw1 : upd H wn (.lst []) wn = some (.lst []) := upd_same
    generalize upd H wn (.lst []) = H1 at f1 hw1
    refine fun pn hpn => ?_
    have f2 : Fr [] H1 (upd H1 pn (.dK [])) := Fr.new hpn
    have hp2 : upd H1 pn (.dK []) pn = some (.dK []) := upd_same
    have hw2 := f2 _ _ hw1 (by simp)
    have nwp : wn ≠ pn := ne_of_none hw1 hpn
    have hpn0 : H pn = none := by
      cases e : H pn with
      | none => rfl
      | some o => rw [f1 _ _ e (by simp)] at hpn; cases hpn
    have f2 := f1.trans f2
    show gName 2 (V.ref pn) _ (upd H1 pn (.dK [])) _
    generalize upd H1 pn (.dK []) = H2 at f2 hp2 hw2
    have S2 := S.keep f2 (by simp)
    refine ⟨_, rfl, st, _, dx, _, _, rfl, S2.st, W.C_Store, W.na_Store__places, rfl, ?_⟩
    obtain ⟨ps, ek, nd, pm⟩ := G.pairs
    subst ek
    have T2 : LamX.TabS H2 W.PT_Store_close_up qLam := hT.ext fun b o e => f2 b o e (by simp)
    refine ⟨pl, ps, rfl, S2.pl, nd, (fun p hp => by cases List.mem_singleton.mp hp; exact T2), fun H3 eN T3 ys q py py2 hq => ?_⟩
    have T3 := T3 _ (List.mem_singleton.mpr rfl)
    have ey : ys = tbl O := by_place (py.trans pm) py2
    subst ey
    have S3 := S2.keepN eN
    have hw3 := eN _ _ hw2 (by intro ps z; cases z)
    have hp3 := eN _ _ hp2 (by intro ps z; cases z)
    have f3 : FrN [] H H3 := fun b o e n t => eN _ _ (f2 b o e n) t
    have f4 : Fr [] H3 (upd H3 q (.lst (((tbl O).map (·.1)).map V.int))) := Fr.new hq
    have hq4 : upd H3 q (.lst (((tbl O).map (·.1)).map V.int)) q = some (.lst (((tbl O).map (·.1)).map V.int)) := upd_same
    have T4 := T3.ext fun b o e => f4 b o e (by simp)
    have S4 := S3.keep f4 (by simp)
    have hw4 := f4 _ _ hw3 (by simp)
    have hp4 := f4 _ _ hp3 (by simp)
    have nqw : q ≠ wn := (ne_of_none hw3 hq).symm
    have f4 := f3.trans f4.n
    generalize upd H3 q (.lst (((tbl O).map (·.1)).map V.int)) = H4 at hq4 T4 S4 hw4 hp4 f4
    have lenT : (tbl O).length = (O.filter (·.live)).length := by
      have := congrArg List.length (tbl_fst O)
      rw [List.length_map, List.length_map] at this
      exact this
    have lenL := List.length_filter_le (fun o : Ob => o.live) O
    have wlw : wl ≠ wn := ne_of_none S.wl hwn
    have plp : pl ≠ pn := ne_of_none S.pl hpn0
    have stw : st ≠ wn := ne_of_none S.st hwn
    have stp : st ≠ pn := ne_of_none S.st hpn0
    refine ⟨q, rfl, ⟨_, SqL.of hq4⟩, ?_⟩
    refine for_list (K := K) (a := q) (xs := ((tbl O).map (·.1)).map V.int) (fun j σ H' => ∃ (v4 v5 : Option V), σ = [some (.ref st), some (.ref wn), some (.ref pn), some (.ref pl), v4, v5] ∧ H' q = some (.lst (((tbl O).map (·.1)).map V.int)) ∧ LamX.TabS H' W.PT_Store_close_up qLam ∧ StoreAt H' W.c_Store st dx wl pl room entries least (flat O) (pD ps) ∧ H' wn = some (.lst ((flat ((O.filter (·.live)).take j)).map V.int)) ∧ H' pn = some (.dK (pD (tbl ((O.filter (·.live)).take j)))) ∧ FrN [] H H')
      ⟨_, _, rfl, hq4, T4, S4, hw4, hp4, f4⟩ (fun j σ H5 _ hI => ?_) (fun j x σ H5 hx hI => ?_) (fun σ H5 hI => ?_)
    · obtain ⟨v4, v5, rfl, a1, _⟩ := hI
      exact SqL.of a1
    · obtain ⟨v4, v5, rfl, a1, a2, a3, a4, a5, a6⟩ := hI
      rw [List.map_map, List.getElem?_map] at hx
      obtain ⟨z, hz, rfl⟩ := Option.map_eq_some_iff.mp hx
      obtain ⟨n, pp⟩ := z
      obtain ⟨i, o, ho, hl, rfl, rfl⟩ := (tbl_mem O n pp).mp (List.mem_of_getElem? hz)
      have hoj : (O.filter (·.live))[j]? = some o := by
        have e1 : ((tbl O).map (·.1))[j]? = some o.num := by rw [List.getElem?_map, hz]; rfl
        rw [tbl_fst, List.getElem?_map] at e1
        obtain ⟨o2, h1, h2⟩ := Option.map_eq_some_iff.mp e1
        have m2 := List.mem_filter.mp (List.mem_of_getElem? h1)
        obtain ⟨i2, hi2⟩ := List.getElem?_of_mem m2.1
        have := G.un i2 i o2 o hi2 ho m2.2 hl h2
        subst this
        rw [ho] at hi2
        rw [h1, hi2]
      have hjlt : j < (O.filter (·.live)).length := (List.getElem?_eq_some_iff.mp hoj).1
      have htk : (O.filter (·.live)).take (j + 1) = (O.filter (·.live)).take j ++ [o] := by rw [List.take_succ, hoj]; rfl
      have hlen2 : (flat ((O.filter (·.live)).take j)).length + (fl o).length ≤ 200000 := by
        have h1 := off_lt hoj
        unfold off at h1
        have h2 : (flat (O.filter (·.live))).length ≤ (flat O).length := by
          have : ∀ l : List Ob, (flat (l.filter (·.live))).length ≤ (flat l).length := by
            intro l
            induction l with
            | nil => exact Nat.le_refl _
            | cons a r ih =>
              by_cases q : a.live = true
              · rw [List.filter_cons_of_pos (by exact q), flat_cons, flat_cons, List.length_append, List.length_append]; omega
              · rw [List.filter_cons_of_neg (by exact q), flat_cons, List.length_append]; omega
          exact this O
        rw [fl_len]
        omega
      -- place = old[number]
      refine ⟨_, rfl, _, rfl, Or.inr ⟨.int (off O i : Nat), by rw [← G.at ho hl]; exact DGet.k (k := Sum.inl o.num) a3.pl, ?_⟩⟩
      -- places[number] = len(words)
      refine ⟨_, rfl, Or.inl ⟨_, Or.inl (SqL.of a4), ?_⟩⟩
      rw [List.length_map]
      refine ⟨_, rfl, _, rfl, pn, _, rfl, DPut.k (k := Sum.inl o.num) a5 (by
        unfold pD tbl
        have := congrArg List.length (lvF_ob 0 ((O.filter (·.live)).take j))
        rw [List.length_map] at this
        have h2 := List.length_filter_le (fun o : Ob => o.live) ((O.filter (·.live)).take j)
        rw [List.length_take] at h2
        rw [List.length_map, List.length_map, sizeLine_eq]
        omega), ?_⟩
      have hnew : valV (pD (tbl ((O.filter (·.live)).take j))) (.inl o.num) = none := by
        cases e : valV (pD (tbl ((O.filter (·.live)).take j))) (.inl o.num) with
        | none => rfl
        | some v =>
          exfalso
          obtain ⟨m, i2, h1, h2, h3⟩ : ∃ n i : Int, (n, i) ∈ tbl ((O.filter (·.live)).take j) ∧ (Sum.inl o.num : Key) = .inl n ∧ v = .int i := by
            obtain ⟨p, hp, e2⟩ := List.mem_map.mp (show ((Sum.inl o.num : Key), v) ∈ (tbl ((O.filter (·.live)).take j)).map _ from val_mem e)
            obtain ⟨e3, e4⟩ := Prod.mk.inj e2
            exact ⟨p.1, p.2, hp, e3.symm, e4.symm⟩
          cases h2
          obtain ⟨i3, o3, h4, h5, h6, _⟩ := (tbl_mem _ _ _).mp h1
          rw [List.getElem?_take] at h4
          split at h4
          · rename_i hlt
            have := (List.getElem?_inj (l := (O.filter (·.live)).map (·.num)) (i := i3) (j := j) (by rw [List.length_map]; omega) G.nums).mp (by rw [List.getElem?_map, List.getElem?_map, h4, hoj, Option.map_some, Option.map_some, h6])
            omega
          · cases h4
      have eput : putK (pD (tbl ((O.filter (·.live)).take j))) (.inl o.num) (.int ((flat ((O.filter (·.live)).take j)).length : Int)) = pD (tbl ((O.filter (·.live)).take (j + 1))) := by
        rw [putK_new _ hnew, htk, tbl_snoc _ _ hl]
        unfold pD
        rw [List.map_append]
        rfl
      rw [eput]
      have npw := nwp.symm
      have npl : pl ≠ pn := plp
      have b1 : upd H5 pn (.dK (pD (tbl ((O.filter (·.live)).take (j + 1))))) pn = some (.dK (pD (tbl ((O.filter (·.live)).take (j + 1))))) := upd_same
      have fb : Fr [pn] H5 (upd H5 pn (.dK (pD (tbl ((O.filter (·.live)).take (j + 1)))))) := Fr.at (by simp)
      have nqp : q ≠ pn := ne_of a1 a5 (by intro z; cases z)
      have c1 := fb _ _ a1 (by simpa using nqp)
      have c2 := tab_out a2 fb (fun b hb => by
        have e : b = pn := by simpa using hb
        rw [e]
        exact ⟨_, a5, (by intro ps z; cases z), (by intro ps z; cases z)⟩)
      have nwlp : wl ≠ pn := ne_of a3.wl a5 (by intro z; cases z)
      have c3 := a3.keep fb (fun b hb h => by
        have h : b = pn := by simpa using h
        simp only [List.mem_cons, List.not_mem_nil, or_false] at hb
        rcases hb with e | e | e
        · exact stp (e.symm.trans h)
        · exact nwlp (e.symm.trans h)
        · exact plp (e.symm.trans h))
      have c4 := fb _ _ a4 (by simpa using nwp)
      have c6 : FrN [] H (upd H5 pn (.dK (pD (tbl ((O.filter (·.live)).take (j + 1)))))) := fun b o e n t => by rw [upd_ne (ne_of_none e hpn0)]; exact a6 b o e n t
      generalize upd H5 pn (.dK (pD (tbl ((O.filter (·.live)).take (j + 1))))) = H6 at b1 c1 c2 c3 c4 c6
      -- words.extend(..)
      refine ⟨_, rfl, Or.inl ⟨rfl, _, SqL.of c4⟩, ?_⟩
      refine ⟨_, rfl, st, _, dx, _, _, rfl, c3.st, W.C_Store, W.na_Store_words, rfl, ?_⟩
      refine ⟨_, rfl, _, rfl, ?_⟩
      refine ⟨_, rfl, ?_⟩
      refine ⟨_, rfl, st, _, dx, _, _, rfl, c3.st, W.C_Store, W.na_Store_words, rfl, ?_⟩
      refine ⟨_, rfl, ?_⟩
      refine Or.inl ⟨_, _, _, rfl, Or.inl (SqL.of c3.wl), atI_nat (j := off O i + 1) (int_at (flat_size ho)), ?_⟩
      refine ⟨_, rfl, ?_⟩
      refine Or.inl ⟨wl, _, rfl, SqL.of c3.wl, fun l hl1 => ?_⟩
      have ecut : cutV ((flat O).map V.int) (some ((off O i : Nat) : Int)) (some (((off O i : Nat) : Int) + 3 + (o.sl.length : Int))) = (fl o).map V.int := by
        have h := cut_seg (ws := flat O) (p := off O i) (n := 3 + o.sl.length) (by have := off_lt ho; omega)
        rw [seg_fl ho] at h
        rw [← h]
        congr 2
        omega
      rw [ecut]
      have nwl : wn ≠ l := ne_of_none c4 hl1
      have g7 : Fr [] H6 (upd H6 l (.lst ((fl o).map V.int))) := Fr.new hl1
      have hl7 : upd H6 l (.lst ((fl o).map V.int)) l = some (.lst ((fl o).map V.int)) := upd_same
      generalize upd H6 l (.lst ((fl o).map V.int)) = H7 at g7 hl7
      have c1 := g7 _ _ c1 (by simp)
      have c2 := c2.ext fun b o e => g7 b o e (by simp)
      have c3 := c3.keep g7 (by simp)
      have c4 := g7 _ _ c4 (by simp)
      have b1 := g7 _ _ b1 (by simp)
      have c6 := c6.trans g7.n
      refine ⟨wn, l, _, _, rfl, rfl, c4, hl7, by rw [List.length_map, List.length_map, sizeLine_eq]; omega, ?_⟩
      have ecat : (flat ((O.filter (·.live)).take j)).map V.int ++ (fl o).map V.int = (flat ((O.filter (·.live)).take (j + 1))).map V.int := by
        rw [htk, flat_app, ← List.map_append]
        congr 2
        show fl o = fl o ++ []
        rw [List.append_nil]
      rw [ecat]
      have fd : Fr [wn] H7 (upd H7 wn (.lst ((flat ((O.filter (·.live)).take (j + 1))).map V.int))) := Fr.at (by simp)
      refine ⟨_, _, rfl, fd _ _ c1 (by simpa using nqw), tab_out c2 fd (fun b hb => by
        have e : b = wn := by simpa using hb
        rw [e]
        exact ⟨_, c4, (by intro ps z; cases z), (by intro ps z; cases z)⟩), c3.keep fd (fun b hb h => by
        have h : b = wn := by simpa using h
        simp only [List.mem_cons, List.not_mem_nil, or_false] at hb
        rcases hb with e | e | e
        · exact stw (e.symm.trans h)
        · exact wlw (e.symm.trans h)
        · exact (ne_of c3.pl c4 (by intro z; cases z)) (e.symm.trans h)), upd_same, fd _ _ b1 (by simpa using nwp.symm), fun b o e n t => by rw [upd_ne (ne_of_none e hwn)]; exact c6 b o e n t⟩
    · obtain ⟨v4, v5, rfl, a1, a2, a3, a4, a5, a6⟩ := hI
      have elen : ((((tbl O).map (·.1)).map V.int)).length = (O.filter (·.live)).length := by rw [List.length_map, List.length_map, lenT]
      rw [elen, List.take_length] at a4 a5
      refine ⟨_, rfl, _, rfl, st, _, dx, _, rfl, a3.st, W.C_Store, W.na_Store_words, (by show 5 < 1000; decide), ?_⟩
      refine ⟨_, rfl, _, rfl, st, _, dx, _, rfl, upd_same, W.C_Store, W.na_Store__places, (by show 5 < 1000; decide), ?_⟩
      rw [upd_upd]
      have fd : Fr [st] H5 (upd H5 st (.ins W.c_Store dx (sF room entries wn pn least))) := Fr.at (by simp)
      refine k _ wn pn ⟨upd_same, fd _ _ a4 (by simpa using stw.symm), fd _ _ a5 (by simpa using stp.symm)⟩ (tab_out a2 fd (fun b hb => by
        have e : b = st := by simpa using hb
        rw [e]
        exact ⟨_, a3.st, (by intro ps z; cases z), (by intro ps z; cases z)⟩)) ((a6.mono (by simp)).trans fd.n) hwn hpn0
end

end LX
namespace LX
open PySem PySem.Spec PyProof.Rows L2 NdefX
section
variable {P : Program} {w : World} {K : PySem.W.Frag} {mg : Str → Option Value} {base : Heap}
def kept (O : List Ob) (F : List Int) : List Ob := (O.filter (·.live)).filter fun p => decide (p.num ∈ F)
def sp_collect (C PT : Addr) : Sp := fun vs H Q _ => ∃ st dx wl pl room entries least O kvs ra, ∃ rs : List Int, vs = [.ref st, .ref ra] ∧ StoreAt H C st dx wl pl room entries least (flat O) kvs ∧ Good O kvs least ∧ (∀ o ∈ O, o.sl.length ≤ 39) ∧ (∀ o ∈ O, 0 ≤ o.num) ∧ O.length ≤ 80 ∧ IsI H ra rs ∧ rs.length ≤ 65 ∧ LamX.TabS H PT qLam ∧
  ∀ F H' wl' pl' least', F.Nodup → (∀ n, n ∈ F ↔ Reach O rs n) → StoreAt H' C st dx wl' pl' room entries least' (flat (kept O F)) (pD (tbl (kept O F))) → Good (kept O F) (pD (tbl (kept O F))) least' → LamX.TabS H' PT qLam → FrN [st, wl, pl] H H' → H wl' = none → H pl' = none → Q (.int (((O.filter (·.live)).length : Int) - (F.length : Int))) H'
theorem ok_collect (W : WT P K mg base) : FnOk P w K mg base CX0 4 W.f_collect W.fd_collect ["store", "roots"] (sp_collect W.c_Store W.PT_Store_close_up) := by
  refine W.F_collect.ok sc_collect (fun vs H Q E h => ?_) (fun cdv Ar outer s H vs Q E hr h => ?_)
  · obtain ⟨st, dx, wl, pl, room, entries, least, O, kvs, ra, rs, rfl, _⟩ := h
    rfl
  · obtain ⟨st, dx, wl, pl, room, entries, least, O, kvs, ra, rs, rfl, S, G, sz, nn, hO, hra, hrs, hT, k⟩ := h
    have hu1 := hu_of hr
    have hu64 := hu64_of hr
    refine ⟨_, (pss_cons (ps_set (i := 2) sc_collect.nd rfl (by first | exact Or.inl rfl | exact Or.inr rfl) (pe_call (ok_reached W) (hr.mono (by decide)) rfl W.g_reached W.F_reached.kp W.b_reached .nil pass0 (pa_cons (pv 0) (pa_cons (pv 1) pa_nil))))
      (pss_cons (ps_setLc (i := 3) (own := [("number", 4)]) (g := gName 4)  rfl sc_collect.nd rfl rfl (sw_true rfl rfl rfl (by decide +kernel)) (pi_list (pe_meth0 (pv 0) W.C_Store W.m_Store_numbers (ok_Store_numbers W) (hr.mono (by decide)) W.b_Store_numbers .nil pass0 )) (blkOk_by (N := N_collect) (sc := defScope s_collect) (by decide +kernel)) (fun _ _ _ _ _ => (pg_name (i := 4) sc_collect.nd rfl (by first | exact Or.inl rfl | exact Or.inr rfl))) (fun _ _ _ _ _ => pts_one (pt_cmpR (op_ninUK (K := K) rfl (by exact hu1)) (pv 4) (pv 2) (by first | exact nomark _ | rfl))) (fun _ _ _ _ _ => (pv 4)))
      (pss_cons (ps_for PassesOwn.never rfl (pi_list (pv 3)) (pg_name (i := 4) sc_collect.nd rfl (by first | exact Or.inl rfl | exact Or.inr rfl)) (pss_one (ps_expr (pe_meth (pv 0) W.C_Store W.m_Store_drop (ok_Store_drop W) (hr.mono (by decide)) W.b_Store_drop .nil pass0 (pa_cons (pv 4) pa_nil)))))
      (pss_cons (ps_expr (pe_meth0 (pv 0) W.C_Store W.m_Store_close_up (ok_Store_close_up W) (hr.mono (by decide)) W.b_Store_close_up .nil pass0 ))
      (pss_one (ps_ret (pe_callB call_lenU (by rfl) W.n_len bb_len (pa_cons (pv 3) pa_nil)))))))), ?_⟩
    refine ⟨_, rfl, _, rfl, ?_⟩
    refine ⟨st, dx, wl, pl, room, entries, least, O, kvs, ra, rs, rfl, S, G, sz, hO, hra, hrs, fun D F H1 hD0 hD ndF hF f1 => ?_⟩
    have S1 := S.keep f1 (by simp)
    have T1 := hT.ext fun b o e => f1 b o e (by simp)
    obtain ⟨ns, n1, n2⟩ := G.ints
    have Flen : F.length ≤ O.length := live_len ndF fun n hn => ((hF n).mp hn).live
    refine ⟨_, rfl, st, dx, _, rfl, S1.st, rfl, ?_⟩
    refine ⟨st, dx, wl, pl, _, _, least, _, kvs, ns, rfl, S1, n1, fun ms q pm ps hq => ?_⟩
    have g2 : Fr [] H1 (upd H1 q (.lst (ms.map V.int))) := Fr.new hq
    have hq2 : upd H1 q (.lst (ms.map V.int)) q = some (.lst (ms.map V.int)) := upd_same
    have hD2 := g2 _ _ hD (by simp)
    have S2 := S1.keep g2 (by simp)
    have T2 := T1.ext fun b o e => g2 b o e (by simp)
    generalize upd H1 q (.lst (ms.map V.int)) = H2 at g2 hq2 hD2 S2 T2
    have f2 := f1.trans g2
    have lms : ms.length ≤ 80 := by
      rw [pm.length_eq, n2.length_eq, List.length_map]
      have := List.length_filter_le (fun o : Ob => o.live) O
      omega
    refine ⟨q, rfl, ⟨_, SqL.of hq2⟩, fun gA hgA => ?_⟩
    refine lc_list (K := K) (a := q) (xs := ms.map V.int) (fun i H' => H' = upd H2 gA (.lst (((ms.take i).filter fun n => !decide (n ∈ F)).map V.int))) rfl (fun i H' _ e => ?_) (fun i x H' hx e => ?_) (fun H' e => ?_)
    · subst e
      exact SqL.of (Fr.new (F := []) (o := .lst (((ms.take i).filter fun n => !decide (n ∈ F)).map V.int)) hgA q _ hq2 (by simp))
    · subst e
      rw [List.getElem?_map] at hx
      obtain ⟨n, hn, rfl⟩ := Option.map_eq_some_iff.mp hx
      have hD3 := Fr.new (F := []) (o := .lst (((ms.take i).filter fun n => !decide (n ∈ F)).map V.int)) hgA D _ hD2 (by simp)
      have lt : ((ms.take i).filter fun n => !decide (n ∈ F)).length ≤ 80 := by
        have := List.length_filter_le (fun n => !decide (n ∈ F)) (ms.take i)
        rw [List.length_take] at this
        omega
      refine ⟨rfl, ?_⟩
      refine ⟨_, rfl, _, rfl, Or.inr ⟨_, DGet.k (k := Sum.inl n) hD3, ?_⟩⟩
      rw [dF_val]
      refine ⟨_, rfl, ?_⟩
      by_cases hn2 : n ∈ F
      · rw [if_pos hn2]
        refine iteF ?_
        rw [take_filter_no hn (by simp [hn2])]
      · rw [if_neg hn2]
        refine iteT ?_
        refine ⟨_, rfl, _, upd_same, by rw [List.length_map, sizeLine_eq]; omega, ?_⟩
        rw [upd_upd, take_filter_yes hn (by simp [hn2]), List.map_append]; rfl
    subst e
    rw [List.length_map, List.take_length]
    generalize eG : (ms.filter fun n => !decide (n ∈ F)) = Gn
    have g3 : Fr [] H2 (upd H2 gA (.lst (Gn.map V.int))) := Fr.new hgA
    have hg3 : upd H2 gA (.lst (Gn.map V.int)) gA = some (.lst (Gn.map V.int)) := upd_same
    have S3 := S2.keep g3 (by simp)
    have T3 := T2.ext fun b o e => g3 b o e (by simp)
    have f3 := f2.trans g3
    have hg0 : H gA = none := by
      cases e : H gA with
      | none => rfl
      | some o => rw [f2 _ _ e (by simp)] at hgA; cases hgA
    generalize upd H2 gA (.lst (Gn.map V.int)) = H3 at g3 hg3 S3 T3 f3
    have nst : st ≠ pl := ne_of S3.st S3.pl (by intro z; cases z)
    have ngs : gA ≠ st := ne_of hg3 S3.st (by intro z; cases z)
    have ngp : gA ≠ pl := ne_of hg3 S3.pl (by intro z; cases z)
    have nwp : wl ≠ pl := ne_of S3.wl S3.pl (by intro z; cases z)
    have nwst : wl ≠ st := ne_of S3.wl S3.st (by intro z; cases z)
    have ndms : ms.Nodup := pm.nodup_iff.mpr (n2.nodup_iff.mpr G.nums)
    have ndG : Gn.Nodup := by rw [← eG]; exact ndms.filter _
    have memG : ∀ n, n ∈ Gn ↔ (n ∈ (O.filter (·.live)).map (·.num)) ∧ n ∉ F := fun n => by
      rw [← eG, List.mem_filter, pm.mem_iff, n2.mem_iff]
      simp
    have lenG : (Gn.length : Int) = ((O.filter (·.live)).length : Int) - (F.length : Int) := by
      have p1 : (Gn ++ F).Perm ((O.filter (·.live)).map (·.num)) := by
        refine perm_of (List.nodup_append.mpr ⟨ndG, ndF, fun a ha b hb e => ?_⟩) G.nums fun n => ?_
        · subst e; exact ((memG a).mp ha).2 hb
        · rw [List.mem_append, memG]
          constructor
          · rintro (h | h)
            · exact h.1
            · obtain ⟨i, o, h1, h2, h3⟩ := ((hF n).mp h).live
              exact List.mem_map.mpr ⟨o, List.mem_filter.mpr ⟨List.mem_of_getElem? h1, h2⟩, h3⟩
          · intro h
            by_cases q : n ∈ F
            · exact Or.inr q
            · exact Or.inl ⟨h, q⟩
      have := p1.length_eq
      rw [List.length_append, List.length_map] at this
      omega
    refine ⟨_, rfl, gA, rfl, ⟨_, SqL.of hg3⟩, ?_⟩
    refine for_list (K := K) (a := gA) (xs := Gn.map V.int) (fun j σ H' => ∃ (v4 : Option V) (Oj : List Ob) (kj : List (Key × V)) (lj : Int), σ = [some (.ref st), some (.ref ra), some (.ref D), some (.ref gA), v4] ∧ StoreAt H' W.c_Store st dx wl pl room entries lj (flat O) kj ∧ Good Oj kj lj ∧ flat Oj = flat O ∧ Oj.length = O.length ∧ (∀ o ∈ Oj, 0 ≤ o.num) ∧ Oj.filter (·.live) = (O.filter (·.live)).filter (fun p => !decide (p.num ∈ Gn.take j)) ∧ H' gA = some (.lst (Gn.map V.int)) ∧ LamX.TabS H' W.PT_Store_close_up qLam ∧ Fr [st, pl] H H')
      ⟨_, O, kvs, least, rfl, S3, G, rfl, rfl, nn, by simp, hg3, T3, f3.mono (by simp)⟩ (fun j σ H4 _ hI => ?_) (fun j x σ H4 hx hI => ?_) (fun σ H4 hI => ?_)
    · obtain ⟨v4, Oj, kj, lj, rfl, a1, a2, a3, a4, a5, a6, a7, a8, a9⟩ := hI
      exact SqL.of a7
    · obtain ⟨v4, Oj, kj, lj, rfl, a1, a2, a3, a4, a5, a6, a7, a8, a9⟩ := hI
      rw [List.getElem?_map] at hx
      obtain ⟨n, hn, rfl⟩ := Option.map_eq_some_iff.mp hx
      have hnG := List.mem_of_getElem? hn
      obtain ⟨o, ho, hon⟩ := List.mem_map.mp ((memG n).mp hnG).1
      have hnt : n ∉ Gn.take j := fun h => by
        obtain ⟨i, hi⟩ := List.getElem?_of_mem h
        rw [List.getElem?_take] at hi
        split at hi
        · rename_i hlt
          have hi2 := (List.getElem?_eq_some_iff.mp hi).1
          have := (List.getElem?_inj (l := Gn) (i := i) (j := j) hi2 ndG).mp (by rw [hi, hn])
          omega
        · cases hi
      have hoj : o ∈ Oj.filter (·.live) := by
        rw [a6]
        exact List.mem_filter.mpr ⟨ho, by rw [hon]; simp [hnt]⟩
      obtain ⟨m1, m2⟩ := List.mem_filter.mp hoj
      obtain ⟨i, hi⟩ := List.getElem?_of_mem m1
      have m2 : o.live = true := m2
      subst hon
      refine ⟨_, rfl, st, dx, _, rfl, a1.st, rfl, ?_⟩
      refine ⟨_, rfl, ?_⟩
      refine ⟨st, dx, wl, pl, _, _, lj, _, kj, o.num, rfl, a1, by rw [a2.at hi m2]; rfl, fun H5 S5 k5 => ?_⟩
      have fd : Fr [st, pl] H4 H5 := Fr.of k5 (by simp) (by simp)
      refine ⟨_, Oj.set i { o with live := false }, _, _, rfl, S5, a2.kill hi m2 (a5 o m1), by rw [flat_kill hi]; exact a3, by rw [List.length_set]; exact a4, fun p hp => ?_, ?_, fd _ _ a7 (by simp [ngs, ngp]), tab_out a8 fd (fun b hb => ?_), a9.trans fd⟩
      · rcases List.mem_or_eq_of_mem_set hp with hp | rfl
        · exact a5 p hp
        · exact a5 o m1
      · rw [kill_filter a2 hi m2, a6, List.filter_filter]
        refine List.filter_congr fun p _ => ?_
        have e : Gn.take (j + 1) = Gn.take j ++ [o.num] := by rw [List.take_succ, hn]; rfl
        rw [e]
        by_cases h1 : p.num ∈ Gn.take j <;> by_cases h2 : p.num = o.num <;> simp [h1, h2]
      · simp only [List.mem_cons, List.not_mem_nil, or_false] at hb
        rcases hb with e | e
        · rw [e]; exact ⟨_, a1.st, (by intro ps z; cases z), (by intro ps z; cases z)⟩
        · rw [e]; exact ⟨_, a1.pl, (by intro ps z; cases z), (by intro ps z; cases z)⟩
    · obtain ⟨v4, Oj, kj, lj, rfl, a1, a2, a3, a4, a5, a6, a7, a8, a9⟩ := hI
      rw [List.length_map, List.take_length] at a6
      have fl2 := flat_len sz
      have ek : Oj.filter (·.live) = kept O F := by
        rw [a6]
        unfold kept
        refine List.filter_congr fun p hp => ?_
        by_cases h : p.num ∈ F
        · have : p.num ∉ Gn := fun z => ((memG _).mp z).2 h
          simp [h, this]
        · have : p.num ∈ Gn := (memG _).mpr ⟨List.mem_map.mpr ⟨p, hp, rfl⟩, h⟩
          simp [h, this]
      refine ⟨_, rfl, st, dx, _, rfl, a1.st, rfl, ?_⟩
      refine ⟨st, dx, wl, pl, _, _, lj, kj, Oj, rfl, by rw [a3]; exact a1, a2, by rw [a3]; omega, by omega, a8, fun H6 wl' pl' S6 T6 f6 hw hp => ?_⟩
      rw [ek] at S6
      have G6 := a2.close
      rw [ek] at G6
      have hg6 := f6.lst a7 (by simpa using ngs)
      refine ⟨_, rfl, Or.inl ⟨_, Or.inl (SqL.of hg6), ?_⟩⟩
      rw [List.length_map, lenG]
      have back : ∀ c, H4 c = none → H c = none := fun c hc => by
        cases e : H c with
        | none => rfl
        | some o =>
          by_cases hm : c ∈ [st, pl]
          · simp only [List.mem_cons, List.not_mem_nil, or_false] at hm
            rcases hm with h | h
            · rw [h, a1.st] at hc; cases hc
            · rw [h, a1.pl] at hc; cases hc
          · rw [a9 _ _ e hm] at hc; cases hc
      exact k F H6 wl' pl' lj ndF hF S6 G6 T6 ((a9.n.mono (by simp)).trans (f6.mono (by simp))) (back _ hw) (back _ hp)
end

end LX
namespace LX
open PySem PySem.Spec PyProof.Rows L2 NdefX
section
variable {P : Program} {w : World} {K : PySem.W.Frag} {mg : Str → Option Value} {base : Heap}
def pF (st pr rt hd : Addr) (al co : Int) : List (Str × V) := [("store", .ref st), ("pressure", .ref pr), ("always", .bl false), ("allocations", .int al), ("collections", .int co), ("_roots", .ref rt), ("_held", .ref hd), ("_saved", .non)]
structure SpaceAt (H : Hp) (C sp dx st pr rt hd : Addr) (al co : Int) (rs hs : List Int) : Prop where
  sp : H sp = some (.ins C dx (pF st pr rt hd al co))
  pr : H pr = some (.lst [])
  rt : H rt = some (.lst (rs.map V.int))
  hd : H hd = some (.lst (hs.map V.int))
theorem SpaceAt.keep {H H' : Hp} {C sp dx st pr rt hd : Addr} {al co : Int} {rs hs : List Int} (S : SpaceAt H C sp dx st pr rt hd al co rs hs) {F : List Addr} (f : Fr F H H') (h : ∀ b ∈ [sp, pr, rt, hd], b ∉ F) : SpaceAt H' C sp dx st pr rt hd al co rs hs :=
  ⟨f _ _ S.sp (h _ (by simp)), f _ _ S.pr (h _ (by simp)), f _ _ S.rt (h _ (by simp)), f _ _ S.hd (h _ (by simp))⟩
def sp_allr : Addr → Sp := fun C vs H Q _ => ∃ sp dx st pr rt hd al co rs hs, vs = [.ref sp] ∧ SpaceAt H C sp dx st pr rt hd al co rs hs ∧ rs.length ≤ 1000 ∧ hs.length ≤ 1000 ∧
  ∀ l H', H' l = some (.lst ((0 :: (rs ++ hs)).map V.int)) → H l = none → Fr [] H H' → Q (.ref l) H'
theorem ok_Space_all_roots (W : WT P K mg base) : FnOk P w K mg base CX0 1 W.f_Space_all_roots W.fd_Space_all_roots ["self"] (sp_allr W.c_Space) := by
  refine W.F_Space_all_roots.ok sc_Space_all_roots (fun vs H Q E h => ?_) (fun cdv A outer s H vs Q E hr h => ?_)
  · obtain ⟨sp, dx, st, pr, rt, hd, al, co, rs, hs, rfl, _⟩ := h
    rfl
  · obtain ⟨sp, dx, st, pr, rt, hd, al, co, rs, hs, rfl, S, h1, h2, k⟩ := h
    have hu1 := hu_of hr
    have hu64 := hu64_of hr
    refine ⟨_, (pss_one (ps_ret (pe_op op_addU (pe_op op_addU (pe_lst (pa_cons (pe_gi rfl W.g_NIL) pa_nil)) (pe_fld (pv 0) rfl)) (pe_fld (pv 0) rfl)))), ?_⟩
    refine ⟨(by show 1 ≤ sizeLine; decide), fun q hq => ?_⟩
    have f1 : Fr [] H (upd H q (.lst [.int 0])) := Fr.new hq
    have q1 : upd H q (.lst [.int 0]) q = some (.lst [.int 0]) := upd_same
    generalize upd H q (.lst [.int 0]) = H1 at f1 q1
    have S1 := S.keep f1 (by simp)
    refine ⟨_, rfl, sp, _, dx, _, _, rfl, S1.sp, W.C_Space, W.na_Space__roots, rfl, ?_⟩
    refine Or.inl ⟨q, rt, _, _, rfl, rfl, q1, S1.rt, (by rw [List.length_map, sizeLine_eq]; show 1 + rs.length ≤ _; omega), fun q2 hq2 => ?_⟩
    have f2 : Fr [] H1 (upd H1 q2 (.lst ([V.int 0] ++ rs.map V.int))) := Fr.new hq2
    have q2' : upd H1 q2 (.lst ([V.int 0] ++ rs.map V.int)) q2 = some (.lst ([V.int 0] ++ rs.map V.int)) := upd_same
    generalize upd H1 q2 (.lst ([V.int 0] ++ rs.map V.int)) = H2 at f2 q2'
    have S2 := S1.keep f2 (by simp)
    have f2 := f1.trans f2
    refine ⟨_, rfl, sp, _, dx, _, _, rfl, S2.sp, W.C_Space, W.na_Space__held, rfl, ?_⟩
    refine Or.inl ⟨q2, hd, _, _, rfl, rfl, q2', S2.hd, (by rw [List.length_append, List.length_map, List.length_map, sizeLine_eq]; show 1 + rs.length + hs.length ≤ _; omega), fun q3 hq3 => ?_⟩
    have e : [V.int 0] ++ rs.map V.int ++ hs.map V.int = (0 :: (rs ++ hs)).map V.int := by rw [List.map_cons, List.map_append]; rfl
    rw [e]
    exact k q3 _ upd_same (by
      cases e : H q3 with
      | none => rfl
      | some o => rw [f2 _ _ e (by simp)] at hq3; cases hq3) (f2.trans (Fr.new hq3))
def sp_sroot : Addr → Sp := fun C vs H Q _ => ∃ sp dx st pr rt hd al co rs hs, ∃ (k : Nat) (x : Int), vs = [.ref sp, .int (k : Int), .int x] ∧ SpaceAt H C sp dx st pr rt hd al co rs hs ∧ k < rs.length ∧ Q .non (upd H rt (.lst ((rs.set k x).map V.int)))
theorem ok_Space_set_root (W : WT P K mg base) : FnOk P w K mg base CX0 1 W.f_Space_set_root W.fd_Space_set_root ["self", "k", "word"] (sp_sroot W.c_Space) := by
  refine W.F_Space_set_root.ok sc_Space_set_root (fun vs H Q E h => ?_) (fun cdv A outer s H vs Q E hr h => ?_)
  · obtain ⟨sp, dx, st, pr, rt, hd, al, co, rs, hs, n, x, rfl, _⟩ := h
    rfl
  · obtain ⟨sp, dx, st, pr, rt, hd, al, co, rs, hs, n, x, rfl, S, h1, k⟩ := h
    have hu1 := hu_of hr
    have hu64 := hu64_of hr
    refine ⟨_, (pss_one (ps_asg (pv 2) (pg_sub (pe_fld (pv 0) rfl) (pv 1) set_list))), ?_⟩
    refine ⟨_, rfl, ?_⟩
    refine ⟨_, rfl, sp, _, dx, _, _, rfl, S.sp, W.C_Space, W.na_Space__roots, rfl, ?_⟩
    refine ⟨_, rfl, rt, _, _, n, rfl, rfl, S.rt, ixN_nat (by rw [List.length_map]; exact h1), ?_⟩
    rw [set_int]
    exact k
def sp_hold : Addr → Sp := fun C vs H Q _ => ∃ sp dx st pr rt hd al co rs hs, ∃ x : Int, vs = [.ref sp, .int x] ∧ SpaceAt H C sp dx st pr rt hd al co rs hs ∧ hs.length ≤ 1000 ∧ Q (.int x) (upd H hd (.lst ((hs ++ [x]).map V.int)))
theorem ok_Space_hold (W : WT P K mg base) : FnOk P w K mg base CX0 1 W.f_Space_hold W.fd_Space_hold ["self", "word"] (sp_hold W.c_Space) := by
  refine W.F_Space_hold.ok sc_Space_hold (fun vs H Q E h => ?_) (fun cdv A outer s H vs Q E hr h => ?_)
  · obtain ⟨sp, dx, st, pr, rt, hd, al, co, rs, hs, x, rfl, _⟩ := h
    rfl
  · obtain ⟨sp, dx, st, pr, rt, hd, al, co, rs, hs, x, rfl, S, h1, k⟩ := h
    have hu1 := hu_of hr
    have hu64 := hu64_of hr
    refine ⟨_, (pss_cons (ps_expr (pe_bm PySem.F.plainAttrs_list PySem.F.slot_list_append PySem.F.type_list_append mt_append (pe_fld (pv 0) rfl) (pa_cons (pv 1) pa_nil)))
      (pss_one (ps_ret (pv 1)))), ?_⟩
    refine ⟨_, rfl, sp, _, dx, _, _, rfl, S.sp, W.C_Space, W.na_Space__held, rfl, Or.inl ⟨rfl, _, SqL.of S.hd⟩, ?_⟩
    refine ⟨_, rfl, hd, _, _, rfl, rfl, S.hd, (by rw [List.length_map, sizeLine_eq]; omega), ?_⟩
    rw [show hs.map V.int ++ [V.int x] = (hs ++ [x]).map V.int by rw [List.map_append]; rfl]
    exact ⟨_, rfl, k⟩
end

end LX
namespace LX
open PySem PySem.Spec PyProof.Rows L2 NdefX
section
variable {P : Program} {w : World} {K : PySem.W.Frag} {mg : Str → Option Value} {base : Heap}
def sp_objof : Addr → Addr → Sp := fun CS C vs H Q _ => ∃ sp dxs st pr rt hd al co rs hs dx wl pl room entries least O kvs, ∃ x : Int, vs = [.ref sp, .int x] ∧ SpaceAt H CS sp dxs st pr rt hd al co rs hs ∧ StoreAt H C st dx wl pl room entries least (flat O) kvs ∧ Good O kvs least ∧
  (x % 2 = 0 → Live O (x / 2) → Q (.int (x / 2)) H) ∧ (¬ (x % 2 = 0 ∧ Live O (x / 2)) → Q .non H)
theorem ok_object_of (W : WT P K mg base) : FnOk P w K mg base CX0 3 W.f_object_of W.fd_object_of ["space", "word"] (sp_objof W.c_Space W.c_Store) := by
  refine W.F_object_of.ok sc_object_of (fun vs H Q E h => ?_) (fun cdv A outer s H vs Q E hr h => ?_)
  · obtain ⟨sp, dxs, st, pr, rt, hd, al, co, rs, hs, dx, wl, pl, room, entries, least, O, kvs, x, rfl, _⟩ := h
    rfl
  · obtain ⟨sp, dxs, st, pr, rt, hd, al, co, rs, hs, dx, wl, pl, room, entries, least, O, kvs, x, rfl, S, T, G, k1, k2⟩ := h
    have hu1 := hu_of hr
    have hu64 := hu64_of hr
    refine ⟨_, (pss_cons (ps_if (PW.pt (pw_and (pt_truth (pe_call (ok_is_ref W) (hr.mono (by decide)) rfl W.g_is_ref W.F_is_ref.kp W.b_is_ref .nil pass0 (pa_cons (pv 1) pa_nil)) (by intro _; rfl)) (pw_and1 (pt_truth (pe_meth (pe_fld (pv 0) rfl) W.C_Store W.m_Store_exists (ok_Store_exists W) (hr.mono (by decide)) W.b_Store_exists .nil pass0 (pa_cons (pe_call (ok_ref_of W) (hr.mono (by decide)) rfl W.g_ref_of W.F_ref_of.kp W.b_ref_of .nil pass0 (pa_cons (pv 1) pa_nil)) pa_nil)) (by intro _; rfl))))) (pss_one (ps_ret (pe_call (ok_ref_of W) (hr.mono (by decide)) rfl W.g_ref_of W.F_ref_of.kp W.b_ref_of .nil pass0 (pa_cons (pv 1) pa_nil)))) pss_nil)
      (pss_one (ps_ret pe_non))), ?_⟩
    refine ⟨_, rfl, x, rfl, ?_⟩
    refine ⟨_, rfl, ?_⟩
    refine iteD (fun h1 => ?_) (fun h1 => k2 fun z => h1 z.1)
    refine ⟨_, rfl, sp, _, dxs, _, _, rfl, S.sp, W.C_Space, W.na_Space_store, rfl, ?_⟩
    refine ⟨st, dx, _, rfl, T.st, rfl, ?_⟩
    refine ⟨_, rfl, x, rfl, h1, ?_⟩
    refine ⟨st, dx, wl, pl, room, entries, least, flat O, kvs, x / 2, rfl, T, ?_⟩
    refine ⟨_, rfl, ?_⟩
    cases e : (valV kvs (.inl (x / 2))).isSome with
    | true =>
      refine iteT ?_
      exact ⟨_, rfl, x, rfl, h1, k1 h1 ((G.iff _).mp e)⟩
    | false =>
      refine iteF ?_
      exact k2 fun z => by rw [(G.iff _).mpr z.2] at e; cases e
/-- what a thing holds: its kind, its contents -/
def rowOf (o : Ob) : List Int := o.kind :: o.sl
def sp_rowof : Addr → Addr → Sp := fun CS C vs H Q _ => ∃ sp dxs st pr rt hd al co rs hs dx wl pl room entries least O kvs, ∃ (i : Nat) (o : Ob), vs = [.ref sp, .int o.num] ∧ SpaceAt H CS sp dxs st pr rt hd al co rs hs ∧ StoreAt H C st dx wl pl room entries least (flat O) kvs ∧ Good O kvs least ∧ O[i]? = some o ∧ o.live = true ∧ o.sl.length ≤ 1000 ∧
  ∀ q H', H q = none → H' q = some (.lst ((rowOf o).map V.int)) → Fr [] H H' → Q (.ref q) H'
theorem ok_row_of (W : WT P K mg base) : FnOk P w K mg base CX0 3 W.f_row_of W.fd_row_of ["space", "number"] (sp_rowof W.c_Space W.c_Store) := by
  refine W.F_row_of.ok sc_row_of (fun vs H Q E h => ?_) (fun cdv A outer s H vs Q E hr h => ?_)
  · obtain ⟨sp, dxs, st, pr, rt, hd, al, co, rs, hs, dx, wl, pl, room, entries, least, O, kvs, i, o, rfl, _⟩ := h
    rfl
  · obtain ⟨sp, dxs, st, pr, rt, hd, al, co, rs, hs, dx, wl, pl, room, entries, least, O, kvs, i, o, rfl, S, T, G, ho, hl, hz, k⟩ := h
    have hu1 := hu_of hr
    have hu64 := hu64_of hr
    have hlt := off_lt ho
    refine ⟨_, (pss_one (ps_ret (pe_op op_addU (pe_lst (pa_cons (pe_meth (pe_fld (pv 0) rfl) W.C_Store W.m_Store_kind (ok_Store_kind W) (hr.mono (by decide)) W.b_Store_kind .nil pass0 (pa_cons (pv 1) pa_nil)) pa_nil)) (pe_meth (pe_fld (pv 0) rfl) W.C_Store W.m_Store_slots (ok_Store_slots W) (hr.mono (by decide)) W.b_Store_slots .nil pass0 (pa_cons (pv 1) pa_nil))))), ?_⟩
    refine ⟨_, rfl, sp, _, dxs, _, _, rfl, S.sp, W.C_Space, W.na_Space_store, rfl, ?_⟩
    refine ⟨st, dx, _, rfl, T.st, rfl, ?_⟩
    refine ⟨_, rfl, ?_⟩
    refine ⟨st, dx, wl, pl, room, entries, least, flat O, kvs, o.num, off O i, o.kind, rfl, T, G.at ho hl, flat_kind ho, ?_⟩
    refine ⟨(by show 1 ≤ sizeLine; decide), fun q1 hq1 => ?_⟩
    have f1 : Fr [] H (upd H q1 (.lst [.int o.kind])) := Fr.new hq1
    have e1 : upd H q1 (.lst [.int o.kind]) q1 = some (.lst [.int o.kind]) := upd_same
    generalize upd H q1 (.lst [.int o.kind]) = H1 at f1 e1
    have S1 := S.keep f1 (by simp)
    have T1 := T.keep f1 (by simp)
    refine ⟨_, rfl, sp, _, dxs, _, _, rfl, S1.sp, W.C_Space, W.na_Space_store, rfl, ?_⟩
    refine ⟨st, dx, _, rfl, T1.st, rfl, ?_⟩
    refine ⟨_, rfl, ?_⟩
    refine ⟨st, dx, wl, pl, room, entries, least, flat O, kvs, o.num, off O i, o.sl.length, rfl, T1, G.at ho hl, flat_size ho, by omega, fun q2 hq2 => ?_⟩
    rw [flat_slots ho]
    have f2 : Fr [] H1 (upd H1 q2 (.lst (o.sl.map V.int))) := Fr.new hq2
    have e2 : upd H1 q2 (.lst (o.sl.map V.int)) q2 = some (.lst (o.sl.map V.int)) := upd_same
    generalize upd H1 q2 (.lst (o.sl.map V.int)) = H2 at f2 e2
    refine Or.inl ⟨q1, q2, _, _, rfl, rfl, f2 _ _ e1 (by simp), e2, (by rw [List.length_map, sizeLine_eq]; show 1 + o.sl.length ≤ _; omega), fun q3 hq3 => ?_⟩
    have f12 := f1.trans f2
    refine k q3 _ ?_ upd_same (f12.trans (Fr.new hq3))
    cases e : H q3 with
    | none => rfl
    | some u => rw [f12 _ _ e (by simp)] at hq3; cases hq3
end

end LX
namespace LX
open PySem PySem.Spec PyProof.Rows L2 NdefX
section
variable {P : Program} {w : World} {K : PySem.W.Frag} {mg : Str → Option Value} {base : Heap}
/-- the space's own places stand apart from the store's -/
structure ApartS (sp st pr rt hd wl : Addr) : Prop where
  a : sp ≠ st
  p : pr ≠ wl
  r : rt ≠ wl
  h : hd ≠ wl
  b : pr ≠ rt
  c : pr ≠ hd
  d : rt ≠ hd
theorem SpaceAt.store {H H' : Hp} {CS C sp dxs st pr rt hd dx wl pl : Addr} {al co room entries least : Int} {rs hs ws : List Int} {kvs : List (Key × V)} (S : SpaceAt H CS sp dxs st pr rt hd al co rs hs) (T : StoreAt H C st dx wl pl room entries least ws kvs) (N : ApartS sp st pr rt hd wl) (f : Fr [st, wl, pl] H H') : SpaceAt H' CS sp dxs st pr rt hd al co rs hs := by
  refine S.keep f (fun b hb => ?_)
  have l1 : ∀ b xs, H b = some (.lst xs) → b ≠ wl → b ∉ [st, wl, pl] := fun b xs e n => by
    have := ne_of e T.st (by intro z; cases z)
    have := ne_of e T.pl (by intro z; cases z)
    simp_all
  simp only [List.mem_cons, List.not_mem_nil, or_false] at hb
  rcases hb with e | e | e | e
  · rw [e]
    have := ne_of S.sp T.wl (by intro z; cases z)
    have := ne_of S.sp T.pl (by intro z; cases z)
    have := N.a
    simp_all
  · rw [e]; exact l1 _ _ S.pr N.p
  · rw [e]; exact l1 _ _ S.rt N.r
  · rw [e]; exact l1 _ _ S.hd N.h
def sp_snew : Addr → Addr → Sp := fun CS C vs H Q _ => ∃ sp dxs st pr rt hd al co rs hs dx wl pl room entries least ws kvs, ∃ (x : Int) (z : Nat), vs = [.ref sp, .int x, .int (z : Int)] ∧ SpaceAt H CS sp dxs st pr rt hd al co rs hs ∧ StoreAt H C st dx wl pl room entries least ws kvs ∧ ApartS sp st pr rt hd wl ∧ Seen kvs least ∧ (kvs.length : Int) < entries ∧ entries ≤ 100000 ∧ (ws.length : Int) + 3 + z ≤ room ∧ room ≤ 100000 ∧
  ∀ m H', SpaceAt H' CS sp dxs st pr rt hd al co rs hs → StoreAt H' C st dx wl pl room entries m (ws ++ (m :: (z : Int) :: x :: List.replicate z 0)) (putK kvs (.inl m) (.int (ws.length : Int))) → Fr [st, wl, pl] H H' → Seen kvs m → valV kvs (.inl m) = none → Q (.int m) H'
theorem ok_Space_fitted (W : WT P K mg base) : FnOk P w K mg base CX0 6 W.f_Space_fitted W.fd_Space_fitted ["self", "kind", "size"] (sp_snew W.c_Space W.c_Store) := by
  refine W.F_Space_fitted.ok sc_Space_fitted (fun vs H Q E h => ?_) (fun cdv A outer s H vs Q E hr h => ?_)
  · obtain ⟨sp, dxs, st, pr, rt, hd, al, co, rs, hs, dx, wl, pl, room, entries, least, ws, kvs, x, z, rfl, _⟩ := h
    rfl
  · obtain ⟨sp, dxs, st, pr, rt, hd, al, co, rs, hs, dx, wl, pl, room, entries, least, ws, kvs, x, z, rfl, S, T, N, h1, h2, h3, h4, h5, k⟩ := h
    have hu1 := hu_of hr
    have hu64 := hu64_of hr
    refine ⟨_, (pss_cons (ps_try_thru0 (pss_one (ps_ret (pe_meth (pe_fld (pv 0) rfl) W.C_Store W.m_Store_allocate (ok_Store_allocate W) (hr.mono (by decide)) W.b_Store_allocate .nil pass0 (pa_cons (pv 1) (pa_cons (pv 2) pa_nil))))))
      (pss_one (ps_ret (pe_meth (pe_fld (pv 0) rfl) W.C_Store W.m_Store_allocate (ok_Store_allocate W) (hr.mono (by decide)) W.b_Store_allocate .nil pass0 (pa_cons (pv 1) (pa_cons (pv 2) pa_nil)))))), ?_⟩
    refine ⟨_, rfl, sp, _, dxs, _, _, rfl, S.sp, W.C_Space, W.na_Space_store, rfl, ?_⟩
    refine ⟨st, dx, _, rfl, T.st, rfl, ?_⟩
    refine ⟨_, rfl, _, rfl, ?_⟩
    exact ⟨st, dx, wl, pl, room, entries, least, ws, kvs, x, z, rfl, T, h1, h2, h3, h4, h5, fun m H' T' f hs hm => k m H' (S.store T N f) T' f hs hm⟩
def sp_snew2 : Addr → Addr → Sp := fun CS C vs H Q _ => ∃ sp dxs st pr rt hd al co rs hs dx wl pl room entries least ws kvs, ∃ (x : Int) (z : Nat), vs = [.ref sp, .int x, .int (z : Int)] ∧ SpaceAt H CS sp dxs st pr rt hd al co rs hs ∧ StoreAt H C st dx wl pl room entries least ws kvs ∧ ApartS sp st pr rt hd wl ∧ Seen kvs least ∧ (kvs.length : Int) < entries ∧ entries ≤ 100000 ∧ (ws.length : Int) + 3 + z ≤ room ∧ room ≤ 100000 ∧
  ∀ m H', SpaceAt H' CS sp dxs st pr rt hd (al + 1) co rs hs → StoreAt H' C st dx wl pl room entries m (ws ++ (m :: (z : Int) :: x :: List.replicate z 0)) (putK kvs (.inl m) (.int (ws.length : Int))) → Fr [sp, st, wl, pl] H H' → Seen kvs m → valV kvs (.inl m) = none → Q (.int m) H'
theorem SpaceAt.counts {H : Hp} {CS C sp dxs st pr rt hd dx wl pl : Addr} {al co al' co' room entries least : Int} {rs hs ws : List Int} {kvs : List (Key × V)} (S : SpaceAt H CS sp dxs st pr rt hd al co rs hs) (T : StoreAt H C st dx wl pl room entries least ws kvs) (N : ApartS sp st pr rt hd wl) :
    SpaceAt (upd H sp (.ins CS dxs (pF st pr rt hd al' co'))) CS sp dxs st pr rt hd al' co' rs hs ∧ StoreAt (upd H sp (.ins CS dxs (pF st pr rt hd al' co'))) C st dx wl pl room entries least ws kvs := by
  have f : Fr [sp] H (upd H sp (.ins CS dxs (pF st pr rt hd al' co'))) := Fr.at (by simp)
  have i1 := ne_of S.pr S.sp (by intro z; cases z)
  have i2 := ne_of S.rt S.sp (by intro z; cases z)
  have i3 := ne_of S.hd S.sp (by intro z; cases z)
  have i4 := ne_of T.wl S.sp (by intro z; cases z)
  have i5 := ne_of T.pl S.sp (by intro z; cases z)
  have := N.a
  refine ⟨⟨upd_same, f _ _ S.pr (by simpa using i1), f _ _ S.rt (by simpa using i2), f _ _ S.hd (by simpa using i3)⟩, T.keep f (fun b hb => ?_)⟩
  simp only [List.mem_cons, List.not_mem_nil, or_false] at hb ⊢
  rcases hb with e | e | e
  · rw [e]; exact this.symm
  · rw [e]; exact i4
  · rw [e]; exact i5
theorem SpaceAt.storeN {H H' : Hp} {CS C sp dxs st pr rt hd dx wl pl : Addr} {al co room entries least : Int} {rs hs ws : List Int} {kvs : List (Key × V)} (S : SpaceAt H CS sp dxs st pr rt hd al co rs hs) (T : StoreAt H C st dx wl pl room entries least ws kvs) (N : ApartS sp st pr rt hd wl) (f : FrN [st, wl, pl] H H') : SpaceAt H' CS sp dxs st pr rt hd al co rs hs := by
  have l1 : ∀ b xs, H b = some (.lst xs) → b ≠ wl → b ∉ [st, wl, pl] := fun b xs e n => by
    have := ne_of e T.st (by intro z; cases z)
    have := ne_of e T.pl (by intro z; cases z)
    simp_all
  have := ne_of S.sp T.wl (by intro z; cases z)
  have := ne_of S.sp T.pl (by intro z; cases z)
  have := N.a
  exact ⟨f _ _ S.sp (by simp_all) (by intro ps z; cases z), f.lst S.pr (l1 _ _ S.pr N.p), f.lst S.rt (l1 _ _ S.rt N.r), f.lst S.hd (l1 _ _ S.hd N.h)⟩
def sp_cwith (CS C PT : Addr) : Sp := fun vs H Q _ => ∃ sp dxs st pr rt hd al co rs hs dx wl pl room entries least O kvs, ∃ x : Int, vs = [.ref sp, .int x] ∧ SpaceAt H CS sp dxs st pr rt hd al co rs hs ∧ StoreAt H C st dx wl pl room entries least (flat O) kvs ∧ ApartS sp st pr rt hd wl ∧ Good O kvs least ∧ (∀ o ∈ O, o.sl.length ≤ 39) ∧ (∀ o ∈ O, 0 ≤ o.num) ∧ O.length ≤ 80 ∧ rs.length ≤ 20 ∧ hs.length ≤ 20 ∧ LamX.TabS H PT qLam ∧
  ∀ F H' wl' pl' least', F.Nodup → (∀ n, n ∈ F ↔ Reach O ((0 :: (rs ++ hs)) ++ [x]) n) → SpaceAt H' CS sp dxs st pr rt hd al (co + 1) rs hs → StoreAt H' C st dx wl' pl' room entries least' (flat (kept O F)) (pD (tbl (kept O F))) → Good (kept O F) (pD (tbl (kept O F))) least' → LamX.TabS H' PT qLam → FrN [sp, st, wl, pl] H H' → H wl' = none → H pl' = none → Q (.int (((O.filter (·.live)).length : Int) - (F.length : Int))) H'
theorem ok_Space_collect_with (W : WT P K mg base) : FnOk P w K mg base CX0 5 W.f_Space_collect_with W.fd_Space_collect_with ["self", "word"] (sp_cwith W.c_Space W.c_Store W.PT_Store_close_up) := by
  refine W.F_Space_collect_with.ok sc_Space_collect_with (fun vs H Q E h => ?_) (fun cdv A outer s H vs Q E hr h => ?_)
  · obtain ⟨sp, dxs, st, pr, rt, hd, al, co, rs, hs, dx, wl, pl, room, entries, least, O, kvs, x, rfl, _⟩ := h
    rfl
  · obtain ⟨sp, dxs, st, pr, rt, hd, al, co, rs, hs, dx, wl, pl, room, entries, least, O, kvs, x, rfl, S, T, N, G, sz, nn, len, h1, h2, tab, k⟩ := h
    have hu1 := hu_of hr
    have hu64 := hu64_of hr
    refine ⟨_, (pss_cons (ps_fld (pv 0) (pe_op op_addU (pe_fld (pv 0) rfl) pe_int) rfl)
      (pss_one (ps_ret (pe_call (ok_collect W) (hr.mono (by decide)) rfl W.g_collect_collecting W.F_collect.kp W.b_collect .nil pass0 (pa_cons (pe_fld (pv 0) rfl) (pa_cons (pe_op op_addU (pe_meth0 (pv 0) W.C_Space W.m_Space_all_roots (ok_Space_all_roots W) (hr.mono (by decide)) W.b_Space_all_roots .nil pass0 ) (pe_lst (pa_cons (pv 1) pa_nil))) pa_nil)))))), ?_⟩
    refine ⟨_, rfl, sp, _, dxs, _, _, rfl, S.sp, W.C_Space, W.na_Space_collections, rfl, ?_⟩
    refine ⟨_, rfl, sp, _, dxs, _, rfl, S.sp, W.C_Space, W.na_Space_collections, (by show 8 < 1000; decide), ?_⟩
    obtain ⟨S1, T1⟩ := S.counts (al' := al) (co' := co + 1) T N
    have f1 : Fr [sp] H (upd H sp (.ins W.c_Space dxs (pF st pr rt hd al (co + 1)))) := Fr.at (by simp)
    rw [show putF "collections" (V.int (co + 1)) (pF st pr rt hd al co) = pF st pr rt hd al (co + 1) from rfl]
    have tab1 := tab_out tab f1 (fun b hb => by
      have e : b = sp := by simpa using hb
      rw [e]
      exact ⟨_, S.sp, (by intro ps z; cases z), (by intro ps z; cases z)⟩)
    generalize upd H sp (.ins W.c_Space dxs (pF st pr rt hd al (co + 1))) = H1 at S1 T1 f1 tab1
    refine ⟨_, rfl, sp, _, dxs, _, _, rfl, S1.sp, W.C_Space, W.na_Space_store, rfl, ?_⟩
    refine ⟨_, rfl, sp, dxs, _, rfl, S1.sp, rfl, ?_⟩
    refine ⟨sp, dxs, st, pr, rt, hd, al, co + 1, rs, hs, rfl, S1, by omega, by omega, fun l H2 hl hl0 f2 => ?_⟩
    refine ⟨_, rfl, (by show 1 ≤ sizeLine; decide), fun q hq => ?_⟩
    have f3 : Fr [] H2 (upd H2 q (.lst [.int x])) := Fr.new hq
    have q3 : upd H2 q (.lst [.int x]) q = some (.lst [.int x]) := upd_same
    generalize upd H2 q (.lst [.int x]) = H3 at f3 q3
    refine Or.inl ⟨l, q, _, _, rfl, rfl, f3 _ _ hl (by simp), q3, (by rw [List.length_map, sizeLine_eq, List.length_cons, List.length_append]; show rs.length + hs.length + 1 + 1 ≤ _; omega), fun ra hra => ?_⟩
    have e3 : (0 :: (rs ++ hs)).map V.int ++ [V.int x] = ((0 :: (rs ++ hs)) ++ [x]).map V.int := by rw [List.map_append]; rfl
    rw [e3]
    have f4 : Fr [] H3 (upd H3 ra (.lst (((0 :: (rs ++ hs)) ++ [x]).map V.int))) := Fr.new hra
    have r4 : upd H3 ra (.lst (((0 :: (rs ++ hs)) ++ [x]).map V.int)) ra = some (.lst (((0 :: (rs ++ hs)) ++ [x]).map V.int)) := upd_same
    generalize upd H3 ra (.lst (((0 :: (rs ++ hs)) ++ [x]).map V.int)) = H4 at f4 r4
    have f24 := (f2.trans f3).trans f4
    have T4 := T1.keep f24 (by simp)
    have S4 := S1.keep f24 (by simp)
    refine ⟨st, dx, wl, pl, room, entries, least, O, kvs, ra, _, rfl, T4, G, sz, nn, len, r4, (by rw [List.length_append, List.length_cons, List.length_append]; show rs.length + hs.length + 1 + 1 ≤ _; omega), tab1.ext (fun b o e => f24 b o e (by simp)), fun F H' wl' pl' least' nd hF T5 G5 tab5 f5 w5 p5 => ?_⟩
    have f15 : FrN [sp, st, wl, pl] H H' := (((f1.mono (by simp)).trans (f24.mono (by simp))).n).trans (f5.mono (by simp))
    have none1 : ∀ b, H4 b = none → H b = none := fun b hb => by
      cases e : H b with
      | none => rfl
      | some o =>
        exfalso
        by_cases hs : b = sp
        · rw [hs, S4.sp] at hb; cases hb
        · rw [f24 _ _ (f1 _ _ e (by simpa using hs)) (by simp)] at hb; cases hb
    exact k F H' wl' pl' least' nd hF (S4.storeN T4 N f5) T5 G5 tab5 f15 (none1 _ w5) (none1 _ p5)
theorem ok_Space_new (W : WT P K mg base) : FnOk P w K mg base CX0 7 W.f_Space_new W.fd_Space_new ["self", "kind", "size"] (sp_snew2 W.c_Space W.c_Store) := by
  refine W.F_Space_new.ok sc_Space_new (fun vs H Q E h => ?_) (fun cdv A outer s H vs Q E hr h => ?_)
  · obtain ⟨sp, dxs, st, pr, rt, hd, al, co, rs, hs, dx, wl, pl, room, entries, least, ws, kvs, x, z, rfl, _⟩ := h
    rfl
  · obtain ⟨sp, dxs, st, pr, rt, hd, al, co, rs, hs, dx, wl, pl, room, entries, least, ws, kvs, x, z, rfl, S, T, N, h1, h2, h3, h4, h5, k⟩ := h
    have hu1 := hu_of hr
    have hu64 := hu64_of hr
    refine ⟨_, (pss_cons (ps_fld (pv 0) (pe_op op_addU (pe_fld (pv 0) rfl) pe_int) rfl)
      (pss_cons (ps_if (pt_cmpR op_isnotU (pe_fld (pv 0) rfl) pe_non (by first | exact nomark _ | rfl)) (pss_one (ps_ret (pe_meth (pe_fld (pv 0) rfl) W.C_Store W.m_Store_allocate (ok_Store_allocate W) (hr.mono (by decide)) W.b_Store_allocate .nil pass0 (pa_cons (pv 1) (pa_cons (pv 2) pa_nil))))) pss_nil)
      (pss_cons (ps_if (PW.pt (pw_or (pt_truth (pe_fld (pv 0) rfl) (by intro _; rfl)) (pw_or1 (pt_cmpR (op_inU hu1) (pe_fld (pv 0) rfl) (pe_fld (pv 0) rfl) (by first | exact nomark _ | rfl))))) (pss_one (ps_expr (pe_meth (pv 0) W.C_Space W.m_Space_collect_with (ok_Space_collect_with W) (hr.mono (by decide)) W.b_Space_collect_with .nil pass0 (pa_cons (pv 1) pa_nil)))) pss_nil)
      (pss_one (ps_ret (pe_meth (pv 0) W.C_Space W.m_Space_fitted (ok_Space_fitted W) (hr.mono (by decide)) W.b_Space_fitted .nil pass0 (pa_cons (pv 1) (pa_cons (pv 2) pa_nil)))))))), ?_⟩
    refine ⟨_, rfl, sp, _, dxs, _, _, rfl, S.sp, W.C_Space, W.na_Space_allocations, rfl, ?_⟩
    refine ⟨_, rfl, sp, _, dxs, _, rfl, S.sp, W.C_Space, W.na_Space_allocations, (by show 8 < 1000; decide), ?_⟩
    obtain ⟨S1, T1⟩ := S.counts (al' := al + 1) (co' := co) T N
    have f1 : Fr [sp] H (upd H sp (.ins W.c_Space dxs (pF st pr rt hd (al + 1) co))) := Fr.at (by simp)
    rw [show putF "allocations" (V.int (al + 1)) (pF st pr rt hd al co) = pF st pr rt hd (al + 1) co from rfl]
    generalize upd H sp (.ins W.c_Space dxs (pF st pr rt hd (al + 1) co)) = H1 at S1 T1 f1
    refine ⟨_, rfl, sp, _, dxs, _, _, rfl, S1.sp, W.C_Space, W.na_Space__saved, rfl, ?_⟩
    refine ⟨_, rfl, ?_⟩
    refine iteND (fun h => absurd rfl h) (fun _ => ?_)
    refine ⟨_, rfl, sp, _, dxs, _, _, rfl, S1.sp, W.C_Space, W.na_Space_always, rfl, ?_⟩
    refine ⟨_, rfl, iteF ?_⟩
    refine ⟨_, rfl, sp, _, dxs, _, _, rfl, S1.sp, W.C_Space, W.na_Space_allocations, rfl, ?_⟩
    refine ⟨_, rfl, sp, _, dxs, _, _, rfl, S1.sp, W.C_Space, W.na_Space_pressure, rfl, ?_⟩
    refine Or.inl ⟨_, Or.inl (SqL.of S1.pr), rfl, rfl, ?_⟩
    refine ⟨_, rfl, iteF ?_⟩
    refine ⟨_, rfl, sp, dxs, _, rfl, S1.sp, rfl, ?_⟩
    refine ⟨_, rfl, _, rfl, ?_⟩
    exact ⟨sp, dxs, st, pr, rt, hd, al + 1, co, rs, hs, dx, wl, pl, room, entries, least, ws, kvs, x, z, rfl, S1, T1, N, h1, h2, h3, h4, h5, fun m H' S' T' f hs hm => k m H' S' T' ((f1.mono (by simp)).trans (f.mono (by simp))) hs hm⟩
def sp_coll (CS C PT : Addr) : Sp := fun vs H Q _ => ∃ sp dxs st pr rt hd al co rs hs dx wl pl room entries least O kvs, vs = [.ref sp] ∧ SpaceAt H CS sp dxs st pr rt hd al co rs hs ∧ StoreAt H C st dx wl pl room entries least (flat O) kvs ∧ ApartS sp st pr rt hd wl ∧ Good O kvs least ∧ (∀ o ∈ O, o.sl.length ≤ 39) ∧ (∀ o ∈ O, 0 ≤ o.num) ∧ O.length ≤ 80 ∧ rs.length ≤ 20 ∧ hs.length ≤ 20 ∧ LamX.TabS H PT qLam ∧
  ∀ F H' wl' pl' least', F.Nodup → (∀ n, n ∈ F ↔ Reach O ((0 :: (rs ++ hs)) ++ [0]) n) → SpaceAt H' CS sp dxs st pr rt hd al (co + 1) rs hs → StoreAt H' C st dx wl' pl' room entries least' (flat (kept O F)) (pD (tbl (kept O F))) → Good (kept O F) (pD (tbl (kept O F))) least' → LamX.TabS H' PT qLam → FrN [sp, st, wl, pl] H H' → H wl' = none → H pl' = none → Q (.int (((O.filter (·.live)).length : Int) - (F.length : Int))) H'
theorem ok_Space_collect (W : WT P K mg base) : FnOk P w K mg base CX0 6 W.f_Space_collect W.fd_Space_collect ["self"] (sp_coll W.c_Space W.c_Store W.PT_Store_close_up) := by
  refine W.F_Space_collect.ok sc_Space_collect (fun vs H Q E h => ?_) (fun cdv A outer s H vs Q E hr h => ?_)
  · obtain ⟨sp, dxs, st, pr, rt, hd, al, co, rs, hs, dx, wl, pl, room, entries, least, O, kvs, rfl, _⟩ := h
    rfl
  · obtain ⟨sp, dxs, st, pr, rt, hd, al, co, rs, hs, dx, wl, pl, room, entries, least, O, kvs, rfl, S, T, N, G, sz, nn, len, h1, h2, tab, k⟩ := h
    have hu1 := hu_of hr
    have hu64 := hu64_of hr
    refine ⟨_, (pss_cons (ps_if (pt_cmpR op_isnotU (pe_fld (pv 0) rfl) pe_non (by first | exact nomark _ | rfl)) (pss_one ps_never) pss_nil)
      (pss_one (ps_ret (pe_meth (pv 0) W.C_Space W.m_Space_collect_with (ok_Space_collect_with W) (hr.mono (by decide)) W.b_Space_collect_with .nil pass0 (pa_cons (pe_gi rfl W.g_NIL) pa_nil))))), ?_⟩
    refine ⟨_, rfl, sp, _, dxs, _, _, rfl, S.sp, W.C_Space, W.na_Space__saved, rfl, ?_⟩
    refine ⟨_, rfl, ?_⟩
    refine iteND (fun h => absurd rfl h) (fun _ => ?_)
    refine ⟨_, rfl, sp, dxs, _, rfl, S.sp, rfl, ?_⟩
    exact ⟨sp, dxs, st, pr, rt, hd, al, co, rs, hs, dx, wl, pl, room, entries, least, O, kvs, 0, rfl, S, T, N, G, sz, nn, len, h1, h2, tab, k⟩
end

end LX
namespace LX
open PySem PySem.Spec PyProof.Rows L2 NdefX
section
variable {P : Program} {w : World} {K : PySem.W.Frag} {mg : Str → Option Value} {base : Heap}
def sp_garb (CS C : Addr) : Sp := fun vs H Q _ => ∃ sp dxs st pr rt hd al co rs hs dx wl pl room entries least O kvs, vs = [.ref sp] ∧ SpaceAt H CS sp dxs st pr rt hd al co rs hs ∧ StoreAt H C st dx wl pl room entries least (flat O) kvs ∧ Good O kvs least ∧ (∀ o ∈ O, o.sl.length ≤ 39) ∧ O.length ≤ 80 ∧ rs.length ≤ 20 ∧ hs.length ≤ 20 ∧
  ∀ q H' (L : List Int), H' q = some (.lst (L.map V.int)) → H q = none → L.Pairwise (· ≤ ·) → L.Nodup → (∀ n, n ∈ L ↔ Live O n ∧ ¬ Reach O (0 :: (rs ++ hs)) n) → L.length ≤ 80 → Fr [] H H' → Q (.ref q) H'
theorem ok_garbage (W : WT P K mg base) : FnOk P w K mg base CX0 4 W.f_garbage W.fd_garbage ["space"] (sp_garb W.c_Space W.c_Store) := by
  refine W.F_garbage.ok sc_garbage (fun vs H Q E h => ?_) (fun cdv A outer s H vs Q E hr h => ?_)
  · obtain ⟨sp, dxs, st, pr, rt, hd, al, co, rs, hs, dx, wl, pl, room, entries, least, O, kvs, rfl, _⟩ := h
    rfl
  · obtain ⟨sp, dxs, st, pr, rt, hd, al, co, rs, hs, dx, wl, pl, room, entries, least, O, kvs, rfl, S, T, G, sz, len, h1, h2, k⟩ := h
    have hu1 := hu_of hr
    have hu64 := hu64_of hr
    refine ⟨_, (pss_cons (ps_set (i := 1) sc_garbage.nd rfl (by first | exact Or.inl rfl | exact Or.inr rfl) (pe_call (ok_reached W) (hr.mono (by decide)) rfl W.g_reached W.F_reached.kp W.b_reached .nil pass0 (pa_cons (pe_fld (pv 0) rfl) (pa_cons (pe_meth0 (pv 0) W.C_Space W.m_Space_all_roots (ok_Space_all_roots W) (hr.mono (by decide)) W.b_Space_all_roots .nil pass0 ) pa_nil))))
      (pss_one (ps_ret (pe_lc (own := [("number", 2)]) (g := gName 2)  rfl sc_garbage.nd (pi_list (pe_meth0 (pe_fld (pv 0) rfl) W.C_Store W.m_Store_numbers (ok_Store_numbers W) (hr.mono (by decide)) W.b_Store_numbers .nil pass0 )) (blkOk_by (N := N_garbage) (sc := defScope s_garbage) (by decide +kernel)) (fun _ _ _ _ _ => (pg_name (i := 2) sc_garbage.nd rfl (by first | exact Or.inl rfl | exact Or.inr rfl))) (fun _ _ _ _ _ => pts_one (pt_cmpR (op_ninUK (K := K) rfl (by exact hu1)) (pv 2) (pv 1) (by first | exact nomark _ | rfl))) (fun _ _ _ _ _ => (pv 2)))))), ?_⟩
    refine ⟨_, rfl, sp, _, dxs, _, _, rfl, S.sp, W.C_Space, W.na_Space_store, rfl, ?_⟩
    refine ⟨_, rfl, sp, dxs, _, rfl, S.sp, rfl, ?_⟩
    refine ⟨sp, dxs, st, pr, rt, hd, al, co, rs, hs, rfl, S, by omega, by omega, fun l H1 hl hl0 f1 => ?_⟩
    have T1 := T.keep f1 (by simp)
    refine ⟨st, dx, wl, pl, room, entries, least, O, kvs, l, _, rfl, T1, G, sz, len, hl, (by rw [List.length_cons, List.length_append]; omega), fun D F H2 hD0 hD nd hF f2 => ?_⟩
    have f12 := f1.trans f2
    have S2 := S.keep f12 (by simp)
    have T2 := T.keep f12 (by simp)
    refine ⟨_, rfl, sp, _, dxs, _, _, rfl, S2.sp, W.C_Space, W.na_Space_store, rfl, ?_⟩
    refine ⟨st, dx, _, rfl, T2.st, rfl, ?_⟩
    obtain ⟨ms, m1, m2⟩ := G.ints
    refine ⟨st, dx, wl, pl, room, entries, least, flat O, kvs, ms, rfl, T2, m1, fun ns q pm ps hq => ?_⟩
    have f3 : Fr [] H2 (upd H2 q (.lst (ns.map V.int))) := Fr.new hq
    have q3 : upd H2 q (.lst (ns.map V.int)) q = some (.lst (ns.map V.int)) := upd_same
    generalize upd H2 q (.lst (ns.map V.int)) = H3 at f3 q3
    have f13 := f12.trans f3
    have D3 := f3 _ _ hD (by simp)
    refine ⟨q, rfl, ⟨_, SqL.of q3⟩, fun R hR => ?_⟩
    have pn := pm.trans m2
    have nl : ns.length ≤ 80 := by
      have h := pn.length_eq
      rw [List.length_map] at h
      have := List.length_filter_le (fun o : Ob => o.live) O
      omega
    refine lc_list (K := K) (a := q) (xs := ns.map V.int) (fun i H' => H' = upd H3 R (.lst (((ns.take i).filter fun n => decide (n ∉ F)).map V.int))) rfl (fun i H' _ e => ?_) (fun i x H' hx e => ?_) (fun H' e => ?_)
    · subst e
      exact SqL.of (Fr.new (F := []) hR q _ q3 (by simp))
    · subst e
      rw [List.getElem?_map] at hx
      obtain ⟨n, hn, rfl⟩ := Option.map_eq_some_iff.mp hx
      have D4 := Fr.new (F := []) (o := .lst (((ns.take i).filter fun n => decide (n ∉ F)).map V.int)) hR D _ D3 (by simp)
      refine ⟨rfl, ?_⟩
      refine ⟨_, rfl, _, rfl, Or.inr ⟨_, DGet.k (k := Sum.inl n) D4, ?_⟩⟩
      rw [dF_val]
      by_cases hm : n ∈ F
      · rw [if_pos hm]
        refine ⟨_, rfl, iteF ?_⟩
        rw [take_filter_no hn (by simpa using hm)]
      · rw [if_neg hm]
        refine ⟨_, rfl, iteT ?_⟩
        refine ⟨_, rfl, _, upd_same, ?_, ?_⟩
        · rw [List.length_map, sizeLine_eq]
          have := List.length_filter_le (fun n => decide (n ∉ F)) (ns.take i)
          rw [List.length_take] at this
          omega
        · rw [upd_upd, take_filter_yes hn (by simpa using hm), List.map_append]; rfl
    · subst e
      rw [List.length_map, List.take_length]
      have nn : ns.Nodup := by
        rw [List.Perm.nodup_iff pn]
        exact G.nums
      refine k R _ (ns.filter fun n => decide (n ∉ F)) upd_same ?_ (ps.sublist List.filter_sublist) (nn.sublist List.filter_sublist) (fun n => ?_) (Nat.le_trans (List.length_filter_le _ _) nl) (f13.trans (Fr.new hR))
      · cases e : H R with
        | none => rfl
        | some u => rw [f13 _ _ e (by simp)] at hR; cases hR
      · rw [List.mem_filter, decide_eq_true_iff, hF n, pn.mem_iff]
        constructor
        · rintro ⟨a, b⟩
          obtain ⟨o, ho, rfl⟩ := List.mem_map.mp a
          obtain ⟨h1, h2⟩ := List.mem_filter.mp ho
          obtain ⟨i, hi⟩ := List.getElem?_of_mem h1
          exact ⟨⟨i, o, hi, h2, rfl⟩, b⟩
        · rintro ⟨⟨i, o, hi, hl, rfl⟩, b⟩
          exact ⟨List.mem_map.mpr ⟨o, List.mem_filter.mpr ⟨List.mem_of_getElem? hi, hl⟩, rfl⟩, b⟩
end

end LX
namespace LX
open PySem PySem.Spec PyProof.Rows L2 NdefX
set_option hygiene false in
local macro_rules | `(tactic| k_memK) => `(tactic| first | exact W.na_Store_room | exact W.na_Store_entries | exact W.na_Store_words | exact W.na_Store__places | exact W.na_Store__least | exact W.na_Space_store | exact W.na_Space_pressure | exact W.na_Space_always | exact W.na_Space_allocations | exact W.na_Space_collections | exact W.na_Space__roots | exact W.na_Space__held | exact W.na_Space__saved)
set_option hygiene false in
local macro_rules | `(tactic| k_ownIn) => `(tactic| first | exact W.C_Store | exact W.C_Space)
local macro_rules | `(tactic| none_booked) => `(tactic| first | assumption | (refine Fr.g0 (by assumption) ?_; none_booked))
local macro_rules | `(tactic| one_sign) => `(tactic| repeat (first
  | refine Stp.h ?_
  | ((with_reducible refine' z_fld1 ?k0 ?k1 ?k2 ?k3 ?_); (case k0 => none_booked); (case k1 => k_ownIn); (case k2 => k_memK); (case k3 => rfl))
  | ((with_reducible refine' z_meth1 ?k0 ?k1 ?_); (case k0 => none_booked); (case k1 => rfl))
  | ((with_reducible refine' z_bmL ?k0 ?_); (case k0 => none_booked))
  | ((with_reducible refine' z_lenL ?k0 ?_); (case k0 => none_booked))
  | ((with_reducible refine' z_lenT ?k0 ?_); (case k0 => none_booked))
  | ((with_reducible refine' z_lenD ?k0 ?_); (case k0 => none_booked))
  | ((with_reducible refine' z_truL ?k0 ?_); (case k0 => none_booked))
  | ((with_reducible refine' z_truD ?k0 ?_); (case k0 => none_booked))
  | ((with_reducible refine' z_truT ?k0 ?_); (case k0 => none_booked))
  | ((with_reducible refine' z_inDIP ?k0 ?_); (case k0 => none_booked))
  | ((with_reducible refine' z_inDIN ?k0 ?_); (case k0 => none_booked))
  | ((with_reducible refine' z_inDfP ?k0 ?_); (case k0 => none_booked))
  | ((with_reducible refine' z_inDfN ?k0 ?_); (case k0 => none_booked))
  | ((with_reducible refine' z_iList1 ?k0 ?_); (case k0 => none_booked))
  | ((with_reducible refine' z_isi0 ?k0 ?k1 ?k2 ?_); (case k0 => exact (ClsV.ty _)); (case k1 => exact (TyX.base (TyOf.lst (by none_booked)))); (case k2 => first | exact kt_list_int | exact kt_list_bool | exact kt_list_str | exact kt_list_list | exact kt_list_tuple | exact kt_list_dict))
  | ((with_reducible refine' z_rI ?k0 ?_); (case k0 => first | exact (by decide : (0 : Int) < _) | exact ⟨by decide, by decide⟩ | exact ⟨by decide, by decide, by decide⟩ | (show (0 : Int) < _; omega)))
  | ((with_reducible refine' z_mulI ?k0 ?_); (case k0 => first | exact Or.inr ⟨by decide, by decide⟩ | exact Or.inl ⟨by decide, by decide⟩ | exact Or.inl ⟨by omega, by omega⟩ | exact Or.inr ⟨by omega, by omega⟩))))
local macro_rules | `(tactic| leaf_len) => `(tactic| (simp only [wipe, List.map_cons, List.map_nil, List.set_cons_zero, List.set_cons_succ]; one_sign; refine z_ok rfl ?_; one_sign))
section
variable {P : Program} {w : World} {K : PySem.W.Frag} {mg : Str → Option Value} {base : Heap}
def sp_spinit (CS C : Addr) : Sp := fun vs H Q _ => ∃ sp dxs, ∃ room entries : Int, vs = [.ref sp, .int room, .int entries] ∧ H sp = some (.ins CS dxs []) ∧
  ∀ H' st dx wl pl pr rt hd, SpaceAt H' CS sp dxs st pr rt hd 0 0 (List.replicate 16 0) [] → StoreAt H' C st dx wl pl room entries 0 [] [] → ApartS sp st pr rt hd wl → (∀ b o, H b = some o → b ≠ sp → H' b = some o) → (∀ b, b ∈ [st, wl, pl, pr, rt, hd] → H b = none) → Q .non H'
theorem ok_Space___init__ (W : WT P K mg base) : FnOk P w K mg base CX0 3 W.f_Space___init__ W.fd_Space___init__ ["self", "room", "entries"] (sp_spinit W.c_Space W.c_Store) := by
  refine W.F_Space___init__.ok sc_Space___init__ (fun vs H Q E h => by obtain ⟨sp, dxs, room, entries, rfl, hsp, k⟩ := h; rfl) (fun cdv A outer s H vs Q E hr h => ?_)
  obtain ⟨sp, dxs, room, entries, rfl, hsp, k⟩ := h
  have hu1 := hu_of hr
  have hu64 := hu64_of hr
  refine ⟨_, (pss_cons (ps_fld (pv 0) (pe_make W.M_Store (ok_Store___init__ W) (hr.mono (by decide)) rfl W.g_Store W.b_Store___init__ .nil pass0 (pa_cons (pv 1) (pa_cons (pv 2) pa_nil))) rfl)
      (pss_cons (ps_fld (pv 0) (pe_lst pa_nil) rfl)
      (pss_cons (ps_fld (pv 0) pe_bl rfl)
      (pss_cons (ps_fld (pv 0) pe_int rfl)
      (pss_cons (ps_fld (pv 0) pe_int rfl)
      (pss_cons (ps_fld (pv 0) (pe_op op_mulU (pe_lst (pa_cons (pe_gi rfl W.g_NIL) pa_nil)) (pe_gi rfl W.g_ROOTS)) rfl)
      (pss_cons (ps_fld (pv 0) (pe_lst pa_nil) rfl)
      (pss_one (ps_fld (pv 0) pe_non rfl))))))))), ?_⟩
  refine z_start (σ := [some _, some _, some _]) rfl ?_
  one_sign
  intro st dx hst hdx ndx
  have hx0 : upd H dx (.own st) st = none := by rw [upd_ne ndx.symm]; exact hst
  have f0 : Fr [] H (upd (upd H dx (.own st)) st (.ins W.c_Store dx [])) := (Fr.new hdx).trans (Fr.new hx0)
  refine ⟨st, dx, room, entries, rfl, upd_same, fun H1 wl pl T1 f1 hwl hpl => ⟨rfl, ?_⟩⟩
  have fS : Fr [] H H1 := fun b o e _ => f1 b o (f0.g0 e) (ne_of_none e hst)
  have s1 := fS.g0 hsp
  have m1 := ne_of s1 T1.wl (by intro z; cases z)
  have m2 := ne_of s1 T1.pl (by intro z; cases z)
  have nss : sp ≠ st := ne_of_none hsp hst
  have hwl0 := f0.none hwl
  have hpl0 := f0.none hpl
  have sT : ∀ b ∈ [st, wl, pl], b ∉ [sp] := fun b hb h => by
    have h : b = sp := by simpa using h
    subst h
    simp only [List.mem_cons, List.not_mem_nil, or_false] at hb
    rcases hb with e | e | e
    · exact nss e
    · exact m1 e
    · exact m2 e
  clear f1
  one_sign
  refine z_flds1 s1 W.C_Space W.na_Space_store (by show 0 < 1000; decide) fun H2 g2 s2 n2 => ?_
  have T2 := T1.keep g2 sT
  one_sign
  refine z_newL (by show 0 ≤ sizeLine; decide) fun pr H3 hpr f3 p3 => ?_
  have nwp : wl ≠ pr := ne_of_none T2.wl hpr
  have npr : sp ≠ pr := ne_of_none s2 hpr
  have hpr0 : H pr = none := fS.none (g2.noneF hpr (by simpa using npr.symm))
  have g3 := g2.trans (f3.mono (by simp))
  one_sign
  refine z_flds1 (f3.g0 s2) W.C_Space W.na_Space_pressure (by show 1 < 1000; decide) fun H4 f4 s4 n4 => ?_
  one_sign
  refine z_flds1 s4 W.C_Space W.na_Space_always (by show 2 < 1000; decide) fun H5 f5 s5 n5 => ?_
  one_sign
  refine z_flds1 s5 W.C_Space W.na_Space_allocations (by show 3 < 1000; decide) fun H6 f6 s6 n6 => ?_
  one_sign
  refine z_flds1 s6 W.C_Space W.na_Space_collections (by show 4 < 1000; decide) fun H7 f7 s7 n7 => ?_
  have f47 := ((f4.trans f5).trans f6).trans f7
  have p7 := f47.g p3 (by simpa using npr.symm)
  have g7 := g3.trans f47
  clear f4 f5 f6 f7 s4 s5 s6 f47
  one_sign
  refine z_newL (by show 1 ≤ sizeLine; decide) fun q H8 hq f8 q8 => ?_
  one_sign
  refine z_rep 16 q8 rfl (by decide) (by show 1 * 16 ≤ sizeLine; rw [sizeLine_eq]; decide) fun rt H9 hrt f9 r9 => ?_
  have f89 := f8.trans f9
  have hrt7 := f8.none hrt
  have nsr : sp ≠ rt := ne_of_none s7 hrt7
  have npt : pr ≠ rt := ne_of_none p7 hrt7
  have nwt : wl ≠ rt := ne_of_none (T1.keep g7 sT).wl hrt7
  have hrt0 : H rt = none := fS.none (g7.noneF hrt7 (by simpa using nsr.symm))
  have g9 := g7.trans (f89.mono (by simp))
  have r9 : H9 rt = some (.lst ((List.replicate 16 (0 : Int)).map V.int)) := r9
  one_sign
  refine z_flds1 (f89.g0 s7) W.C_Space W.na_Space__roots (by show 5 < 1000; decide) fun H10 f10 s10 n10 => ?_
  one_sign
  refine z_newL (by show 0 ≤ sizeLine; decide) fun hd H11 hhd f11 h11 => ?_
  have p10 := f10.g (f89.g0 p7) (by simpa using npr.symm)
  have r10 := f10.g r9 (by simpa using nsr.symm)
  have g10 := g9.trans f10
  have n1 : sp ≠ hd := ne_of_none s10 hhd
  have n2 : pr ≠ hd := ne_of_none p10 hhd
  have n3 : rt ≠ hd := ne_of_none r10 hhd
  have n4 : wl ≠ hd := ne_of_none (T1.keep g10 sT).wl hhd
  have hhd0 : H hd = none := fS.none (g10.noneF hhd (by simpa using n1.symm))
  one_sign
  refine z_flds1 (f11.g0 s10) W.C_Space W.na_Space__held (by show 6 < 1000; decide) fun H12 f12 s12 n12 => ?_
  one_sign
  refine z_flds1 s12 W.C_Space W.na_Space__saved (by show 7 < 1000; decide) fun H13 f13 s13 n13 => ?_
  have f1113 := f12.trans f13
  have g13 := (g10.trans (f11.mono (by simp))).trans f1113
  refine k _ st dx wl pl pr rt hd ⟨s13, f1113.g (f11.g0 p10) (by simpa using npr.symm), f1113.g (f11.g0 r10) (by simpa using nsr.symm), f1113.g h11 (by simpa using n1.symm)⟩ (T1.keep g13 sT) ⟨nss, nwp.symm, nwt.symm, n4.symm, npt, n2, n3⟩ (fun b o e n => g13.g (fS.g0 e) (by simpa using n)) (fun b hb => ?_)
  simp only [List.mem_cons, List.not_mem_nil, or_false] at hb
  rcases hb with e | e | e | e | e | e <;> subst e <;> assumption
end

end LX
namespace LX
open PySem PySem.Spec PyProof.Rows L2 NdefX
section
variable {P : Program} {w : World} {K : PySem.W.Frag} {mg : Str → Option Value} {base : Heap}
/-- a word that is no reference, or one to a number from 0 -/
def Evn (r : Int) : Prop := r % 2 = 0 → 0 ≤ r
def sp_word : Sp := fun vs H Q _ => ∃ x m : Int, vs = [.int x, .int m] ∧ 0 ≤ m ∧ m ≤ 100000 ∧ ∀ r : Int, Evn r → Q (.int r) H
theorem ok__law_word (W : WT P K mg base) : FnOk P w K mg base CX0 1 W.f__law_word W.fd__law_word ["_law_x", "_law_many"] sp_word := by
  refine W.F__law_word.ok sc__law_word (fun vs H Q E h => ?_) (fun cdv A outer s H vs Q E hr h => ?_)
  · obtain ⟨n, m, rfl, _⟩ := h
    rfl
  · obtain ⟨x, m, rfl, hm, hm2, k⟩ := h
    have hu1 := hu_of hr
    have hu64 := hu64_of hr
    refine ⟨_, (pss_cons (ps_set (i := 2) sc__law_word.nd rfl (by first | exact Or.inl rfl | exact Or.inr rfl) (pe_op op_fdivW (pv 0) pe_int))
      (pss_cons (ps_if (pt_cmpR (op_eqU hu64) (pe_op op_mod (pe_callTy call_intU (by rfl) W.n_int bb_int (pa_cons (pv 0) pa_nil)) pe_int) pe_int (by first | exact nomark _ | rfl)) (pss_one (ps_ret (pe_op op_addU (pe_op op_mulU pe_int (pe_op op_sub (pe_op op_mod (pe_callTy call_intU (by rfl) W.n_int bb_int (pa_cons (pe_op op_mulU (pv 2) pe_int) pa_nil)) pe_int) pe_int)) pe_int))) pss_nil)
      (pss_cons (ps_if (pt_cmpR (op_eqU hu64) (pe_op op_mod (pe_callTy call_intU (by rfl) W.n_int bb_int (pa_cons (pv 0) pa_nil)) pe_int) pe_int (by first | exact nomark _ | rfl)) (pss_one (ps_ret (pe_op op_addU (pe_op op_mulU pe_int (pe_op op_mod (pe_callTy call_intU (by rfl) W.n_int bb_int (pa_cons (pe_op op_mulU (pv 2) pe_int) pa_nil)) pe_int)) pe_int))) pss_nil)
      (pss_cons (ps_if (pt_cmpR (op_eqU hu64) (pe_op op_mod (pe_callTy call_intU (by rfl) W.n_int bb_int (pa_cons (pv 0) pa_nil)) pe_int) pe_int (by first | exact nomark _ | rfl)) (pss_one (ps_ret pe_int)) pss_nil)
      (pss_one (ps_ret (pe_op op_mulU pe_int (pe_op op_mod (pe_callTy call_intU (by rfl) W.n_int bb_int (pa_cons (pv 2) pa_nil)) (pe_op op_addU (pv 1) pe_int))))))))), ?_⟩
    refine ⟨_, rfl, _, _, rfl, rfl, ⟨by decide, by decide⟩, ?_⟩
    refine ⟨_, rfl, _, _, rfl, rfl, (by show (0 : Int) < 8; decide), rfl, _, rfl, ?_⟩
    refine iteD (fun h => ?_) (fun h => ?_)
    · refine ⟨_, rfl, Or.inr ⟨by decide, by decide⟩, ?_⟩
      refine ⟨_, _, rfl, rfl, (by show (0 : Int) < 536870912; decide), _, _, rfl, rfl, ?_⟩
      exact ⟨Or.inl ⟨by decide, by decide⟩, k _ (fun h => by omega)⟩
    · refine ⟨_, rfl, _, _, rfl, rfl, (by show (0 : Int) < 8; decide), rfl, _, rfl, ?_⟩
      refine iteD (fun h => ?_) (fun h => ?_)
      · refine ⟨_, rfl, Or.inr ⟨by decide, by decide⟩, ?_⟩
        refine ⟨_, _, rfl, rfl, (by show (0 : Int) < 100000; decide), ?_⟩
        exact ⟨Or.inl ⟨by decide, by decide⟩, k _ (fun h => by omega)⟩
      · refine ⟨_, rfl, _, _, rfl, rfl, (by show (0 : Int) < 8; decide), rfl, _, rfl, ?_⟩
        refine iteD (fun h => k _ (fun _ => by omega)) (fun h => ?_)
        refine ⟨_, rfl, _, rfl, ?_⟩
        refine ⟨_, _, rfl, rfl, (by omega), ?_⟩
        exact ⟨Or.inl ⟨by decide, by decide⟩, k _ (fun _ => by have := Int.emod_nonneg (x / 8) (by omega : m + 1 ≠ 0); show 0 ≤ 2 * (x / 8 % (m + 1)); omega)⟩
end

end LX
namespace LX
open PySem PySem.Spec PyProof.Rows L2 NdefX
section
variable {P : Program} {w : World} {K : PySem.W.Frag} {mg : Str → Option Value} {base : Heap}
def natZ (l : List Nat) : List V := l.map fun z : Nat => V.int (z : Int)
theorem natZ_set (l : List Nat) (i c : Nat) : (natZ l).set i (.int (c : Int)) = natZ (l.set i c) := by unfold natZ; rw [List.map_set]
theorem all_set {l : List Nat} {i c b : Nat} (h : ∀ z ∈ l, z ≤ b) (hc : c ≤ b) : ∀ z ∈ l.set i c, z ≤ b := fun z hz => by
  rcases List.mem_or_eq_of_mem_set hz with hz | rfl
  · exact h z hz
  · exact hc
def sp_sizes : Sp := fun vs H Q _ => ∃ x : Int, vs = [.int x] ∧ ∀ q (zs : List Nat) H', zs.length ≤ 59 → (∀ z ∈ zs, z ≤ 19) → H' q = some (.lst (natZ zs)) → H q = none → Fr [] H H' → Q (.ref q) H'
theorem ok__law_sizes (W : WT P K mg base) : FnOk P w K mg base CX0 2 W.f__law_sizes W.fd__law_sizes ["_law_x"] sp_sizes := by
  refine W.F__law_sizes.ok sc__law_sizes (fun vs H Q E h => ?_) (fun cdv A outer s H vs Q E hr h => ?_)
  · obtain ⟨n, rfl, _⟩ := h
    rfl
  · obtain ⟨x, rfl, k⟩ := h
    have hu1 := hu_of hr
    have hu64 := hu64_of hr
    refine ⟨_, (pss_cons (ps_set (i := 1) sc__law_sizes.nd rfl (by first | exact Or.inl rfl | exact Or.inr rfl) (pe_op op_mod (pe_callTy call_intU (by rfl) W.n_int bb_int (pa_cons (pv 0) pa_nil)) pe_int))
      (Evl.pss_cut (ps_if (pt_cmpR (op_eqU hu64) (pe_op op_mod (pe_op op_fdivW (pv 0) pe_int) pe_int) pe_int (by first | exact nomark _ | rfl)) (pss_one (ps_set (i := 1) sc__law_sizes.nd rfl (by first | exact Or.inl rfl | exact Or.inr rfl) (pe_op op_mod (pe_op op_fdivW (pv 0) pe_int) pe_int))) pss_nil)
      (pss_cons (ps_set (i := 2) sc__law_sizes.nd rfl (by first | exact Or.inl rfl | exact Or.inr rfl) (pe_op op_fdivW (pv 0) pe_int))
      (pss_cons (ps_set (i := 3) sc__law_sizes.nd rfl (by first | exact Or.inl rfl | exact Or.inr rfl) (pe_lst pa_nil))
      (pss_cons (ps_for PassesOwn.never rfl (pi_range1 (by rfl) W.n_range (pa_cons (pv 1) pa_nil)) (pg_name (i := 4) sc__law_sizes.nd rfl (by first | exact Or.inl rfl | exact Or.inr rfl)) (pss_cons (ps_set (i := 5) sc__law_sizes.nd rfl (by first | exact Or.inl rfl | exact Or.inr rfl) (pe_call (ok__law_number W) (hr.mono (by decide)) rfl W.g__law_number W.F__law_number.kp W.b__law_number .nil pass0 (pa_cons (pe_op op_addU (pv 2) (pv 4)) (pa_cons (pe_op op_addU (pv 4) pe_int) pa_nil))))
      (pss_cons (ps_set (i := 2) sc__law_sizes.nd rfl (by first | exact Or.inl rfl | exact Or.inr rfl) (pe_op op_fdivW (pv 2) pe_int))
      (pss_cons (ps_expr (pe_bm PySem.F.plainAttrs_list PySem.F.slot_list_append PySem.F.type_list_append mt_append (pv 3) (pa_cons (pe_op op_mod (pe_callTy call_intU (by rfl) W.n_int bb_int (pa_cons (pv 5) pa_nil)) pe_int) pa_nil)))
      (Evl.pss_cut (ps_if (pt_cmpR (op_eqU hu64) (pe_op op_mod (pe_op op_fdivW (pv 5) pe_int) pe_int) pe_int (by first | exact nomark _ | rfl)) (pss_one (ps_asg (pe_op op_mod (pe_op op_fdivW (pv 5) pe_int) pe_int) (pg_sub (pv 3) (pv 4) set_list))) pss_nil)
      (pss_one (ps_if (PW.pt (pw_and (pt_cmpR (op_eqU hu64) (pv 4) pe_int (by first | exact nomark _ | rfl)) (pw_and1 (pt_cmpR op_gtU (pe_op op_mod (pe_op op_fdivW (pv 5) pe_int) pe_int) pe_int (by first | exact nomark _ | rfl))))) (pss_one (ps_asg pe_int (pg_sub (pv 3) (pv 4) set_list))) pss_nil)))))))
      (pss_one (ps_ret (pv 3)))))))), ?_⟩
    refine ⟨_, rfl, _, _, rfl, rfl, (by show (0 : Int) < 11; decide), ?_⟩
    refine ⟨fun σ H' => (∃ c : Nat, σ = [some (.int x), some (.int (c : Int)), none, none, none, none] ∧ c ≤ 59) ∧ H' = H, ?_, ?_⟩
    · refine ⟨_, rfl, _, _, rfl, rfl, ⟨by decide, by decide⟩, ?_⟩
      refine ⟨_, _, rfl, rfl, (by show (0 : Int) < 8; decide), ?_⟩
      refine ⟨rfl, _, rfl, ?_⟩
      refine ite_eq (I_dec _ _) (iteD (fun h1 => ?_) (fun h1 => ?_))
      · refine ⟨_, rfl, _, _, rfl, rfl, ⟨by decide, by decide⟩, ?_⟩
        refine ⟨_, _, rfl, rfl, (by show (0 : Int) < 40; decide), ?_⟩
        have e1 := Int.emod_nonneg (x / 88) (by decide : (40 : Int) ≠ 0)
        have e2 := Int.emod_lt_of_pos (x / 88) (by decide : (0 : Int) < 40)
        exact ⟨⟨(x / 88 % 40).toNat, by rw [show ((x / 88 % 40).toNat : Int) = x / 88 % 40 by omega]; rfl, by omega⟩, rfl⟩
      · have e1 := Int.emod_nonneg x (by decide : (11 : Int) ≠ 0)
        have e2 := Int.emod_lt_of_pos x (by decide : (0 : Int) < 11)
        exact ⟨⟨(x % 11).toNat, by rw [show ((x % 11).toNat : Int) = x % 11 by omega]; rfl, by omega⟩, rfl⟩
    rintro σ H1 ⟨⟨c, rfl, hc⟩, rfl⟩
    refine ⟨_, rfl, _, _, rfl, rfl, ⟨by decide, by decide⟩, ?_⟩
    refine ⟨(by show 0 ≤ sizeLine; decide), fun q hq => ?_⟩
    have f1 : Fr [] H1 (upd H1 q (.lst [])) := Fr.new hq
    have q1 : upd H1 q (.lst []) q = some (.lst (natZ [])) := upd_same
    show gName 3 (V.ref q) _ (upd H1 q (.lst [])) _
    generalize upd H1 q (.lst []) = H2 at f1 q1
    refine ⟨_, rfl, ?_⟩
    refine ⟨_, rfl, by show -(2 ^ 62) ≤ ((c : Nat) : Int); omega, by show ((c : Nat) : Int) < 2 ^ 62; omega, for_range (lo := 0) (n := c) (fun i σ H' => ∃ (r : Int) (v4 v5 : Option V) (zs : List Nat), σ = [some (.int x), some (.int (c : Int)), some (.int r), some (.ref q), v4, v5] ∧ H' q = some (.lst (natZ zs)) ∧ zs.length = i ∧ (∀ z ∈ zs, z ≤ 19) ∧ Fr [] H1 H')
      ⟨_, _, _, [], rfl, q1, rfl, fun z h => by simp at h, f1⟩ (fun i σ H3 hi hI => ?_) (fun σ H3 hI => ?_)⟩
    · obtain ⟨r, v4, v5, zs, rfl, q3, hl, hz, f3⟩ := hI
      refine ⟨_, rfl, _, rfl, _, rfl, ?_⟩
      refine ⟨_, _, rfl, by omega, by omega, fun y hy => ?_⟩
      refine ⟨_, rfl, _, _, rfl, rfl, ⟨by decide, by decide⟩, ?_⟩
      refine ⟨_, rfl, Or.inl ⟨rfl, _, SqL.of q3⟩, ?_⟩
      refine ⟨_, rfl, _, _, rfl, rfl, (by show (0 : Int) < 4; decide), ?_⟩
      have a1 := Int.emod_nonneg y (by decide : (4 : Int) ≠ 0)
      have a2 := Int.emod_lt_of_pos y (by decide : (0 : Int) < 4)
      refine ⟨q, _, _, rfl, rfl, q3, (by unfold natZ; rw [List.length_map, sizeLine_eq]; omega), ?_⟩
      have e4 : natZ zs ++ [V.int (y % 4)] = natZ (zs ++ [(y % 4).toNat]) := by
        unfold natZ
        rw [List.map_append]
        show _ ++ [_] = _ ++ [V.int (((y % 4).toNat : Nat) : Int)]
        rw [show (((y % 4).toNat : Nat) : Int) = y % 4 by omega]
      have f4 : Fr [] H1 (upd H3 q (.lst (natZ (zs ++ [(y % 4).toNat])))) := f3.skip hq
      have q4 : upd H3 q (.lst (natZ (zs ++ [(y % 4).toNat]))) q = some (.lst (natZ (zs ++ [(y % 4).toNat]))) := upd_same
      have z4 : ∀ z ∈ zs ++ [(y % 4).toNat], z ≤ 19 := fun z h => by
        rcases List.mem_append.mp h with h | h
        · exact hz z h
        · have e : z = (y % 4).toNat := by simpa using h
          omega
      have l4 : (zs ++ [(y % 4).toNat]).length = i + 1 := by rw [List.length_append, hl]; rfl
      rw [show natZ zs ++ [V.int ((fun i j => i % j) y 4)] = natZ (zs ++ [(y % 4).toNat]) from e4]
      generalize zs ++ [(y % 4).toNat] = zs4 at f4 q4 z4 l4 ⊢
      generalize upd H3 q (.lst (natZ zs4)) = H4 at f4 q4
      have ix : ∀ zs : List Nat, zs.length = i + 1 → ixN (natZ zs).length (0 + (i : Int)) = some i := fun zs h => by
        rw [Int.zero_add]
        exact ixN_nat (by unfold natZ; rw [List.length_map]; omega)
      refine ⟨fun σ H' => ∃ zs : List Nat, σ = [some (.int x), some (.int (c : Int)), some (.int (r / 10007)), some (.ref q), some (.int (0 + (i : Int))), some (.int y)] ∧ H' q = some (.lst (natZ zs)) ∧ zs.length = i + 1 ∧ (∀ z ∈ zs, z ≤ 19) ∧ Fr [] H1 H', ?_, ?_⟩
      · refine ⟨_, rfl, _, _, rfl, rfl, ⟨by decide, by decide⟩, ?_⟩
        refine ⟨_, _, rfl, rfl, (by show (0 : Int) < 16; decide), ?_⟩
        refine ⟨rfl, _, rfl, ?_⟩
        refine ite_eq (I_dec _ _) (iteD (fun h1 => ?_) (fun h1 => ⟨zs4, rfl, q4, l4, z4, f4⟩))
        refine ⟨_, rfl, _, _, rfl, rfl, ⟨by decide, by decide⟩, ?_⟩
        refine ⟨_, _, rfl, rfl, (by show (0 : Int) < 20; decide), ?_⟩
        have b1 := Int.emod_nonneg (y / 64) (by decide : (20 : Int) ≠ 0)
        have b2 := Int.emod_lt_of_pos (y / 64) (by decide : (0 : Int) < 20)
        obtain ⟨d, hd⟩ : ∃ d : Nat, y / 64 % 20 = d := ⟨(y / 64 % 20).toNat, by omega⟩
        refine ⟨_, rfl, _, rfl, q, _, _, i, rfl, rfl, q4, ix zs4 l4, ?_⟩
        refine ⟨zs4.set i d, rfl, ?_, by rw [List.length_set]; exact l4, all_set z4 (by omega), f4.skip hq⟩
        rw [upd_same, ← natZ_set, ← hd]
      clear f4 q4 z4 l4
      rintro σ H5 ⟨zs5, rfl, q5, l5, z5, f5⟩
      refine ⟨_, rfl, rfl, _, rfl, ?_⟩
      refine ite_eq (I_dec _ _) (iteD (fun h1 => ?_) (fun h1 => ⟨_, _, _, zs5, rfl, q5, l5, z5, f5⟩))
      refine ⟨_, rfl, _, _, rfl, rfl, ⟨by decide, by decide⟩, ?_⟩
      refine ⟨_, _, rfl, rfl, (by show (0 : Int) < 4; decide), ?_⟩
      refine ⟨_, rfl, ?_⟩
      refine iteD (fun h2 => ?_) (fun h2 => ⟨_, _, _, zs5, rfl, q5, l5, z5, f5⟩)
      refine ⟨_, rfl, _, rfl, q, _, _, i, rfl, rfl, q5, ix zs5 l5, ?_⟩
      refine ⟨_, _, _, zs5.set i 0, rfl, ?_, by rw [List.length_set]; exact l5, all_set z5 (by omega), f5.skip hq⟩
      rw [upd_same]
      exact congrArg (fun z => some (HO.lst z)) (natZ_set zs5 i 0)
    · obtain ⟨r, v4, v5, zs, rfl, q3, hl, hz, f3⟩ := hI
      exact ⟨_, rfl, k q zs H3 (by omega) hz q3 hq f3⟩
end

end LX
namespace LX
open PySem PySem.Spec PyProof.Rows L2 NdefX
set_option hygiene false in
local macro_rules | `(tactic| k_memK) => `(tactic| first | exact W.na_Store_room | exact W.na_Store_entries | exact W.na_Store_words | exact W.na_Store__places | exact W.na_Store__least | exact W.na_Space_store | exact W.na_Space_pressure | exact W.na_Space_always | exact W.na_Space_allocations | exact W.na_Space_collections | exact W.na_Space__roots | exact W.na_Space__held | exact W.na_Space__saved)
set_option hygiene false in
local macro_rules | `(tactic| k_ownIn) => `(tactic| first | exact W.C_Store | exact W.C_Space)
local macro_rules | `(tactic| none_booked) => `(tactic| first | assumption | (refine Fr.g0 (by assumption) ?_; none_booked))
local macro_rules | `(tactic| one_sign) => `(tactic| repeat (first
  | refine Stp.h ?_
  | ((with_reducible refine' z_fld1 ?k0 ?k1 ?k2 ?k3 ?_); (case k0 => none_booked); (case k1 => k_ownIn); (case k2 => k_memK); (case k3 => rfl))
  | ((with_reducible refine' z_meth1 ?k0 ?k1 ?_); (case k0 => none_booked); (case k1 => rfl))
  | ((with_reducible refine' z_bmL ?k0 ?_); (case k0 => none_booked))
  | ((with_reducible refine' z_lenL ?k0 ?_); (case k0 => none_booked))
  | ((with_reducible refine' z_lenT ?k0 ?_); (case k0 => none_booked))
  | ((with_reducible refine' z_lenD ?k0 ?_); (case k0 => none_booked))
  | ((with_reducible refine' z_truL ?k0 ?_); (case k0 => none_booked))
  | ((with_reducible refine' z_truD ?k0 ?_); (case k0 => none_booked))
  | ((with_reducible refine' z_truT ?k0 ?_); (case k0 => none_booked))
  | ((with_reducible refine' z_inDIP ?k0 ?_); (case k0 => none_booked))
  | ((with_reducible refine' z_inDIN ?k0 ?_); (case k0 => none_booked))
  | ((with_reducible refine' z_inDfP ?k0 ?_); (case k0 => none_booked))
  | ((with_reducible refine' z_inDfN ?k0 ?_); (case k0 => none_booked))
  | ((with_reducible refine' z_iList1 ?k0 ?_); (case k0 => none_booked))
  | ((with_reducible refine' z_isi0 ?k0 ?k1 ?k2 ?_); (case k0 => exact (ClsV.ty _)); (case k1 => exact (TyX.base (TyOf.lst (by none_booked)))); (case k2 => first | exact kt_list_int | exact kt_list_bool | exact kt_list_str | exact kt_list_list | exact kt_list_tuple | exact kt_list_dict))
  | ((with_reducible refine' z_rI ?k0 ?_); (case k0 => first | exact (by decide : (0 : Int) < _) | exact ⟨by decide, by decide⟩ | exact ⟨by decide, by decide, by decide⟩ | (show (0 : Int) < _; omega)))
  | ((with_reducible refine' z_mulI ?k0 ?_); (case k0 => first | exact Or.inr ⟨by decide, by decide⟩ | exact Or.inl ⟨by decide, by decide⟩ | exact Or.inl ⟨by omega, by omega⟩ | exact Or.inr ⟨by omega, by omega⟩))))
local macro_rules | `(tactic| leaf_len) => `(tactic| (simp only [wipe, List.map_cons, List.map_nil, List.set_cons_zero, List.set_cons_succ]; one_sign; refine z_ok rfl ?_; one_sign))
section
variable {P : Program} {w : World} {K : PySem.W.Frag} {mg : Str → Option Value} {base : Heap}
/-- lists of words at their places -/
structure RwL (H : Hp) (A : List Addr) (R : List (List Int)) : Prop where
  len : A.length = R.length
  it : ∀ (i : Nat) (a : Addr) (r : List Int), A[i]? = some a → R[i]? = some r → H a = some (.lst (r.map V.int))
theorem RwL.keep {H H' : Hp} {A : List Addr} {R : List (List Int)} (L : RwL H A R) {F : List Addr} (f : Fr F H H') (h : ∀ a ∈ A, a ∉ F) : RwL H' A R := ⟨L.len, fun i a r ha hr => f _ _ (L.it i a r ha hr) (h a (List.mem_of_getElem? ha))⟩
theorem RwL.mono {H H' : Hp} {A : List Addr} {R : List (List Int)} (L : RwL H A R) (f : Fr [] H H') : RwL H' A R := L.keep f (by simp)
theorem RwL.snoc {H : Hp} {A : List Addr} {R : List (List Int)} (L : RwL H A R) {a : Addr} {r : List Int} (h : H a = some (.lst (r.map V.int))) : RwL H (A ++ [a]) (R ++ [r]) := by
  refine ⟨by rw [List.length_append, List.length_append, L.len]; rfl, fun i b s hb hs => ?_⟩
  rcases get_snoc hb with hb | ⟨e1, e2⟩
  · rcases get_snoc hs with hs | ⟨e3, e4⟩
    · exact L.it i b s hb hs
    · have := (List.getElem?_eq_some_iff.mp hb).1
      have := L.len
      omega
  · rcases get_snoc hs with hs | ⟨e3, e4⟩
    · have := (List.getElem?_eq_some_iff.mp hs).1
      have := L.len
      omega
    · rw [e2, e4]; exact h
def sp_rows : Sp := fun vs H Q _ => ∃ (sa : Addr) (zs : List Nat) (x : Int), vs = [.ref sa, .int x] ∧ H sa = some (.lst (natZ zs)) ∧ zs.length ≤ 59 ∧ (∀ z ∈ zs, z ≤ 19) ∧
  ∀ q (A : List Addr) (R : List (List Int)) H', H' q = some (.lst (A.map V.ref)) → RwL H' A R → R.map (·.length) = zs.map (· + 1) → (∀ r ∈ R, ∀ x ∈ r, Evn x) → H q = none → Fr [] H H' → Q (.ref q) H'
theorem natZ_len (l : List Nat) : (natZ l).length = l.length := by unfold natZ; rw [List.length_map]
theorem natZ_at {l : List Nat} {i z : Nat} (h : l[i]? = some z) : atI (natZ l) (i : Int) = some (V.int (z : Int)) := atI_nat (by unfold natZ; rw [List.getElem?_map, h]; rfl)
theorem ok__law_rows (W : WT P K mg base) : FnOk P w K mg base CX0 2 W.f__law_rows W.fd__law_rows ["_law_sizes_here", "_law_x"] sp_rows := by
  refine W.F__law_rows.ok sc__law_rows (fun vs H Q E h => by obtain ⟨sa, zs, x, rfl, hsa, hl, hz, k⟩ := h; rfl) (fun cdv A outer s H vs Q E hr h => ?_)
  obtain ⟨sa, zs, x, rfl, hsa, hl, hz, k⟩ := h
  have hu1 := hu_of hr
  have hu64 := hu64_of hr
  refine ⟨_, (pss_cons (ps_set (i := 2) sc__law_rows.nd rfl (by first | exact Or.inl rfl | exact Or.inr rfl) (pe_lst pa_nil))
      (pss_cons (ps_set (i := 3) sc__law_rows.nd rfl (by first | exact Or.inl rfl | exact Or.inr rfl) (pv 1))
      (pss_cons (ps_for PassesOwn.never rfl (pi_range1 (by rfl) W.n_range (pa_cons (pe_callB call_lenU (by rfl) W.n_len bb_len (pa_cons (pv 0) pa_nil)) pa_nil)) (pg_name (i := 4) sc__law_rows.nd rfl (by first | exact Or.inl rfl | exact Or.inr rfl)) (pss_cons (ps_set (i := 5) sc__law_rows.nd rfl (by first | exact Or.inl rfl | exact Or.inr rfl) (pe_call (ok__law_number W) (hr.mono (by decide)) rfl W.g__law_number W.F__law_number.kp W.b__law_number .nil pass0 (pa_cons (pe_op op_addU (pv 3) (pv 4)) (pa_cons (pv 4) pa_nil))))
      (pss_cons (ps_set (i := 3) sc__law_rows.nd rfl (by first | exact Or.inl rfl | exact Or.inr rfl) (pe_op op_fdivW (pv 3) pe_int))
      (pss_cons (ps_setLc (i := 6) (own := [("_law_at", 7)]) (g := gName 7) (tt := tYes) rfl sc__law_rows.nd rfl rfl (sw_true rfl rfl rfl (by decide +kernel)) (pi_range1 (by rfl) W.n_range (pa_cons (pe_op op_addU pe_int (pe_ix (ix_U hu1) (pv 0) (pv 4) (fun _ _ => rfl))) pa_nil)) (blkOk_by (N := N__law_rows) (sc := defScope s__law_rows) (by decide +kernel)) (fun _ _ _ _ _ => (pg_name (i := 7) sc__law_rows.nd rfl (by first | exact Or.inl rfl | exact Or.inr rfl))) (fun _ _ _ _ _ => pts_nil) (fun _ _ _ _ _ => (pe_call (ok__law_word W) (hr.mono (by decide)) rfl W.g__law_word W.F__law_word.kp W.b__law_word .nil pass0 (pa_cons (pe_op (op_addUK (K := K) rfl) (pe_op (op_addUK (K := K) rfl) (pe_op op_fdivW (pv 5) pe_int) (pe_op op_mulU (pv 7) pe_int)) (pe_op op_mulU (pv 7) (pv 7))) (pa_cons (pe_callB (call_lenUK (K := K) rfl) (by rfl) W.n_len bb_len (pa_cons (pv 0) pa_nil)) pa_nil)))))
      (Evl.pss_cut (ps_if (pt_cmpR (op_eqU hu64) (pe_op op_mod (pe_callTy call_intU (by rfl) W.n_int bb_int (pa_cons (pv 5) pa_nil)) pe_int) pe_int (by first | exact nomark _ | rfl)) (pss_one (ps_asg pe_int (pg_sub (pv 6) pe_int set_list))) pss_nil)
      (Evl.pss_cut (ps_if (PW.pt (pw_and (pt_cmpR (op_eqU hu64) (pe_op op_mod (pe_callTy call_intU (by rfl) W.n_int bb_int (pa_cons (pv 5) pa_nil)) pe_int) pe_int (by first | exact nomark _ | rfl)) (pw_and (pt_cmpR op_gtU (pe_ix (ix_U hu1) (pv 0) (pv 4) (fun _ _ => rfl)) pe_int (by first | exact nomark _ | rfl)) (pw_and1 (pt_cmpR op_gtU (pv 4) pe_int (by first | exact nomark _ | rfl)))))) (pss_one (ps_asg (pe_op op_mulU pe_int (pe_op op_sub (pv 4) pe_int)) (pg_sub (pv 6) pe_int set_list))) pss_nil)
      (pss_one (ps_expr (pe_bm PySem.F.plainAttrs_list PySem.F.slot_list_append PySem.F.type_list_append mt_append (pv 2) (pa_cons (pv 6) pa_nil))))))))))
      (pss_one (ps_ret (pv 2)))))), ?_⟩
  refine z_start (σ := [some _, some _, none, none, none, none, none, none]) rfl ?_
  one_sign
  refine z_newL (by show 0 ≤ sizeLine; decide) fun q H1 hq f1 q1 => ?_
  one_sign
  rw [natZ_len]
  refine z_rng1 zs.length rfl (by omega) ?_
  refine for_range (lo := 0) (n := zs.length) (fun i σ H' => ∃ (r : Int) (v4 v5 v6 v7 : Option V) (A : List Addr) (R : List (List Int)), σ = [some (.ref sa), some (.int x), some (.ref q), some (.int r), v4, v5, v6, v7] ∧ H' q = some (.lst (A.map V.ref)) ∧ RwL H' A R ∧ R.map (·.length) = (zs.take i).map (· + 1) ∧ q ∉ A ∧ (∀ r ∈ R, ∀ x ∈ r, Evn x) ∧ Fr [] H H')
    ⟨_, _, _, _, _, [], [], rfl, q1, ⟨rfl, fun i a r h => by simp at h⟩, rfl, by simp, by simp, f1⟩ (fun i σ H2 hi hI => ?_) (fun σ H2 hI => ?_)
  · obtain ⟨r, v4, v5, v6, v7, A, R, rfl, q2, L2, hR, hqA, hev, f2⟩ := hI
    one_sign
    refine ⟨_, _, rfl, by omega, by omega, fun y hy => ?_⟩
    have hs2 := f2.g0 hsa
    obtain ⟨z, hzi⟩ : ∃ z, zs[i]? = some z := ⟨_, List.getElem?_eq_getElem hi⟩
    have hz19 := hz z (List.mem_of_getElem? hzi)
    one_sign
    refine z_ixL hs2 (by rw [Int.zero_add]; exact natZ_at hzi) ?_
    one_sign
    refine z_rng1 (1 + z) (by omega) (by omega) ?_
    refine z_lcR (fun j xs H' => ∃ cs : List Int, xs = cs.map V.int ∧ cs.length = j ∧ ∀ x ∈ cs, Evn x) (fun _ _ _ _ => ⟨[], rfl, rfl, by simp⟩) ?_ ?_
    · intro L j xs H3 hL hj hl3 hcs hx f3
      obtain ⟨cs, rfl, hc, he⟩ := hcs
      have hs3 := f3.g0 hs2
      leaf_len
      rw [natZ_len]
      refine ⟨_, _, rfl, by omega, by omega, fun c hcv => ?_⟩
      exact z_lcY hL hx f3 hl3 (by rw [sizeLine_eq]; omega) fun H5 _ _ _ => ⟨cs ++ [c], by rw [List.map_append]; rfl, by rw [List.length_append, hc]; rfl, fun x hx => by rcases List.mem_append.mp hx with h | h; exact he x h; rw [List.mem_singleton.mp h]; exact hcv⟩
    intro L xs H3 hL hcs hl3 hx f3
    obtain ⟨cs, rfl, hc, he⟩ := hcs
    one_sign
    have nLq : L ≠ q := fun e => by rw [e, q2] at hL; cases hL
    refine Evl.q_cut (M := fun σ H' => ∃ cs : List Int, σ = [some (.ref sa), some (.int x), some (.ref q), some (.int (r / 1000003)), some (.int (0 + (i : Int))), some (.int y), some (.ref L), v7] ∧ H' L = some (.lst (cs.map V.int)) ∧ cs.length = 1 + z ∧ (∀ x ∈ cs, Evn x) ∧ Fr [] H2 H') ?_ ?_
    · one_sign
      refine iteD (fun h => ?_) (fun h => ?_)
      · one_sign
        refine z_setL hx (ixN_nat (i := 0) (by rw [List.length_map]; omega)) fun H4 f4 h4 n4 => ?_
        one_sign
        exact ⟨cs.set 0 0, rfl, by rw [h4, set_int], by rw [List.length_set]; exact hc, fun x hx => by rcases List.mem_or_eq_of_mem_set hx with h | h; exact he x h; rw [h]; intro _; omega, f3.in f4 hL⟩
      · one_sign
        exact ⟨cs, rfl, hx, hc, he, f3⟩
    rintro σ H4 ⟨cs, rfl, hx, hc, he, f4⟩
    refine Evl.q_cut (M := fun σ H' => ∃ cs : List Int, σ = [some (.ref sa), some (.int x), some (.ref q), some (.int (r / 1000003)), some (.int (0 + (i : Int))), some (.int y), some (.ref L), v7] ∧ H' L = some (.lst (cs.map V.int)) ∧ cs.length = 1 + z ∧ (∀ x ∈ cs, Evn x) ∧ Fr [] H2 H') ?_ ?_
    · have hs4 := f4.g0 hs2
      one_sign
      refine iteD (fun h => ?_) (fun h => ?_)
      · one_sign
        refine z_ixL hs4 (by rw [Int.zero_add]; exact natZ_at hzi) ?_
        one_sign
        refine iteD (fun h => ?_) (fun h => ?_)
        · one_sign
          refine iteD (fun h => ?_) (fun h => ?_)
          · one_sign
            have hz0 : (0 : Int) < (z : Int) := by assumption
            refine z_setL hx (ixN_nat (i := 1) (by rw [List.length_map]; omega)) fun H5 f5 h5 n5 => ?_
            one_sign
            exact ⟨cs.set 1 _, rfl, by rw [h5, set_int], by rw [List.length_set]; exact hc, fun x hx => by rcases List.mem_or_eq_of_mem_set hx with h | h; exact he x h; rw [h]; intro _; omega, f4.in f5 hL⟩
          · one_sign
            exact ⟨cs, rfl, hx, hc, he, f4⟩
        · one_sign
          exact ⟨cs, rfl, hx, hc, he, f4⟩
      · one_sign
        exact ⟨cs, rfl, hx, hc, he, f4⟩
    rintro σ H5 ⟨cs, rfl, hx, hc, he, f5⟩
    have q5 := f5.g0 q2
    one_sign
    refine z_append q5 (by rw [List.length_map, L2.len, sizeLine_eq]; have := congrArg List.length hR; rw [List.length_map, List.length_map, List.length_take] at this; omega) fun H6 f6 h6 n6 => ?_
    have L5 := L2.mono f5
    refine ⟨_, _, _, _, _, A ++ [L], R ++ [cs], rfl, by rw [h6, List.map_append]; rfl, ?_, ?_, ?_, fun r hr => by rcases List.mem_append.mp hr with h | h; exact hev r h; rw [List.mem_singleton.mp h]; exact he, (f2.trans f5).in f6 hq⟩
    · exact (L5.keep f6 (fun a ha => by simp; intro e; exact hqA (e ▸ ha))).snoc (f6.g hx (by simpa using nLq))
    · rw [List.map_append, hR, List.take_succ, hzi, List.map_append]
      show _ ++ [cs.length] = _ ++ [z + 1]
      rw [hc, Nat.add_comm]
    · simp only [List.mem_append, List.mem_singleton, not_or]
      exact ⟨hqA, nLq.symm⟩
  · obtain ⟨r, v4, v5, v6, v7, A, R, rfl, q2, L2, hR, hqA, hev, f2⟩ := hI
    one_sign
    exact k q A R H2 q2 L2 (by rw [hR, List.take_length]) hev hq f2
end

end LX
namespace LX
open PySem PySem.Spec PyProof.Rows L2 NdefX
set_option hygiene false in
local macro_rules | `(tactic| k_memK) => `(tactic| first | exact W.na_Store_room | exact W.na_Store_entries | exact W.na_Store_words | exact W.na_Store__places | exact W.na_Store__least | exact W.na_Space_store | exact W.na_Space_pressure | exact W.na_Space_always | exact W.na_Space_allocations | exact W.na_Space_collections | exact W.na_Space__roots | exact W.na_Space__held | exact W.na_Space__saved)
set_option hygiene false in
local macro_rules | `(tactic| k_ownIn) => `(tactic| first | exact W.C_Store | exact W.C_Space)
local macro_rules | `(tactic| none_booked) => `(tactic| first | assumption | (refine Fr.g0 (by assumption) ?_; none_booked))
local macro_rules | `(tactic| one_sign) => `(tactic| repeat (first
  | refine Stp.h ?_
  | ((with_reducible refine' z_fld1 ?k0 ?k1 ?k2 ?k3 ?_); (case k0 => none_booked); (case k1 => k_ownIn); (case k2 => k_memK); (case k3 => rfl))
  | ((with_reducible refine' z_meth1 ?k0 ?k1 ?_); (case k0 => none_booked); (case k1 => rfl))
  | ((with_reducible refine' z_bmL ?k0 ?_); (case k0 => none_booked))
  | ((with_reducible refine' z_lenL ?k0 ?_); (case k0 => none_booked))
  | ((with_reducible refine' z_lenT ?k0 ?_); (case k0 => none_booked))
  | ((with_reducible refine' z_lenD ?k0 ?_); (case k0 => none_booked))
  | ((with_reducible refine' z_truL ?k0 ?_); (case k0 => none_booked))
  | ((with_reducible refine' z_truD ?k0 ?_); (case k0 => none_booked))
  | ((with_reducible refine' z_truT ?k0 ?_); (case k0 => none_booked))
  | ((with_reducible refine' z_inDIP ?k0 ?_); (case k0 => none_booked))
  | ((with_reducible refine' z_inDIN ?k0 ?_); (case k0 => none_booked))
  | ((with_reducible refine' z_inDfP ?k0 ?_); (case k0 => none_booked))
  | ((with_reducible refine' z_inDfN ?k0 ?_); (case k0 => none_booked))
  | ((with_reducible refine' z_iList1 ?k0 ?_); (case k0 => none_booked))
  | ((with_reducible refine' z_isi0 ?k0 ?k1 ?k2 ?_); (case k0 => exact (ClsV.ty _)); (case k1 => exact (TyX.base (TyOf.lst (by none_booked)))); (case k2 => first | exact kt_list_int | exact kt_list_bool | exact kt_list_str | exact kt_list_list | exact kt_list_tuple | exact kt_list_dict))
  | ((with_reducible refine' z_rI ?k0 ?_); (case k0 => first | exact (by decide : (0 : Int) < _) | exact ⟨by decide, by decide⟩ | exact ⟨by decide, by decide, by decide⟩ | (show (0 : Int) < _; omega)))
  | ((with_reducible refine' z_mulI ?k0 ?_); (case k0 => first | exact Or.inr ⟨by decide, by decide⟩ | exact Or.inl ⟨by decide, by decide⟩ | exact Or.inl ⟨by omega, by omega⟩ | exact Or.inr ⟨by omega, by omega⟩))))
local macro_rules | `(tactic| leaf_len) => `(tactic| (simp only [wipe, List.map_cons, List.map_nil, List.set_cons_zero, List.set_cons_succ]; one_sign; refine z_ok rfl ?_; one_sign))
section
variable {P : Program} {w : World} {K : PySem.W.Frag} {mg : Str → Option Value} {base : Heap}
def sp_roots : Sp := fun vs H Q _ => ∃ (m : Nat) (x : Int), vs = [.int (m : Int), .int x] ∧ m ≤ 1000 ∧
  ∀ q (ws : List Int) H', H' q = some (.lst (ws.map V.int)) → 16 ≤ ws.length → ws.length ≤ 20 → (∀ x ∈ ws, Evn x) → H q = none → Fr [] H H' → Q (.ref q) H'
theorem ok__law_roots (W : WT P K mg base) : FnOk P w K mg base CX0 2 W.f__law_roots W.fd__law_roots ["_law_many", "_law_x"] sp_roots := by
  refine W.F__law_roots.ok sc__law_roots (fun vs H Q E h => by obtain ⟨m, x, rfl, hm, k⟩ := h; rfl) (fun cdv A outer s H vs Q E hr h => ?_)
  obtain ⟨m, x, rfl, hm, k⟩ := h
  have hu1 := hu_of hr
  have hu64 := hu64_of hr
  refine ⟨_, (pss_cons (ps_set (i := 2) sc__law_roots.nd rfl (by first | exact Or.inl rfl | exact Or.inr rfl) (pe_lst pa_nil))
      (pss_cons (ps_set (i := 3) sc__law_roots.nd rfl (by first | exact Or.inl rfl | exact Or.inr rfl) (pv 1))
      (pss_cons (ps_for PassesOwn.never rfl (pi_range1 (by rfl) W.n_range (pa_cons pe_int pa_nil)) (pg_name (i := 4) sc__law_roots.nd rfl (by first | exact Or.inl rfl | exact Or.inr rfl)) (pss_cons (ps_set (i := 5) sc__law_roots.nd rfl (by first | exact Or.inl rfl | exact Or.inr rfl) (pe_call (ok__law_number W) (hr.mono (by decide)) rfl W.g__law_number W.F__law_number.kp W.b__law_number .nil pass0 (pa_cons (pe_op op_addU (pv 3) (pv 4)) (pa_cons (pe_op op_addU (pv 4) pe_int) pa_nil))))
      (pss_cons (ps_set (i := 3) sc__law_roots.nd rfl (by first | exact Or.inl rfl | exact Or.inr rfl) (pe_op op_fdivW (pv 3) pe_int))
      (pss_one (ps_if (pt_cmpR op_gtU (pv 4) pe_int (by first | exact nomark _ | rfl)) (pss_one (ps_if (pt_cmpR (op_eqU hu64) (pe_op op_mod (pe_callTy call_intU (by rfl) W.n_int bb_int (pa_cons (pv 5) pa_nil)) pe_int) pe_int (by first | exact nomark _ | rfl)) (pss_one (ps_expr (pe_bm PySem.F.plainAttrs_list PySem.F.slot_list_append PySem.F.type_list_append mt_append (pv 2) (pa_cons (pe_call (ok__law_word W) (hr.mono (by decide)) rfl W.g__law_word W.F__law_word.kp W.b__law_word .nil pass0 (pa_cons (pe_op op_fdivW (pv 5) pe_int) (pa_cons (pv 0) pa_nil))) pa_nil)))) pss_nil)) (pss_one (ps_if (pt_cmpR (op_eqU hu64) (pe_op op_mod (pe_callTy call_intU (by rfl) W.n_int bb_int (pa_cons (pv 5) pa_nil)) pe_int) pe_int (by first | exact nomark _ | rfl)) (pss_one (ps_expr (pe_bm PySem.F.plainAttrs_list PySem.F.slot_list_append PySem.F.type_list_append mt_append (pv 2) (pa_cons (pe_call (ok__law_word W) (hr.mono (by decide)) rfl W.g__law_word W.F__law_word.kp W.b__law_word .nil pass0 (pa_cons (pe_op op_fdivW (pv 5) pe_int) (pa_cons (pv 0) pa_nil))) pa_nil)))) (pss_one (ps_expr (pe_bm PySem.F.plainAttrs_list PySem.F.slot_list_append PySem.F.type_list_append mt_append (pv 2) (pa_cons pe_int pa_nil)))))))))))
      (pss_one (ps_ret (pv 2)))))), ?_⟩
  refine z_start (σ := [some _, some _, none, none, none, none]) rfl ?_
  one_sign
  refine z_newL (by show 0 ≤ sizeLine; decide) fun q H1 hq f1 q1 => ?_
  one_sign
  refine z_rng1 20 rfl (by decide) ?_
  refine for_range (lo := 0) (n := 20) (fun i σ H' => ∃ (r : Int) (v4 v5 : Option V) (ws : List Int), σ = [some (.int (m : Int)), some (.int x), some (.ref q), some (.int r), v4, v5] ∧ H' q = some (.lst (ws.map V.int)) ∧ ws.length ≤ i ∧ (i ≤ 16 → ws.length = i) ∧ (16 ≤ i → 16 ≤ ws.length) ∧ (∀ x ∈ ws, Evn x) ∧ Fr [] H H')
    ⟨_, _, _, [], rfl, q1, by simp, by simp, by simp, by simp, f1⟩ (fun i σ H2 hi hI => ?_) (fun σ H2 hI => ?_)
  · obtain ⟨r, v4, v5, ws, rfl, q2, hl, h16, h17, hev, f2⟩ := hI
    one_sign
    refine ⟨_, _, rfl, by omega, by omega, fun y hy => ?_⟩
    one_sign
    have app : ∀ c : Int, Evn c → ∀ H3, Fr [q] H2 H3 → H3 q = some (.lst (ws.map V.int ++ [V.int c])) → ∃ (r' : Int) (v4 v5 : Option V) (ws' : List Int), [some (V.int (m : Int)), some (.int x), some (.ref q), some (.int (r / 1009)), some (.int (0 + (i : Int))), some (.int y)] = [some (V.int (m : Int)), some (.int x), some (.ref q), some (.int r'), v4, v5] ∧ H3 q = some (.lst (ws'.map V.int)) ∧ ws'.length ≤ i + 1 ∧ (i + 1 ≤ 16 → ws'.length = i + 1) ∧ (16 ≤ i + 1 → 16 ≤ ws'.length) ∧ (∀ x ∈ ws', Evn x) ∧ Fr [] H H3 := fun c hcv H3 f3 h3 =>
      ⟨_, _, _, ws ++ [c], rfl, by rw [h3, List.map_append]; rfl, by rw [List.length_append]; show ws.length + 1 ≤ i + 1; omega, fun h => by rw [List.length_append]; show ws.length + 1 = i + 1; have := h16 (by omega); omega, fun h => by rw [List.length_append]; show 16 ≤ ws.length + 1; by_cases e : i = 15; (have := h16 (by omega); omega); (have := h17 (by omega); omega), fun x hx => by rcases List.mem_append.mp hx with h | h; exact hev x h; rw [List.mem_singleton.mp h]; exact hcv, f2.in f3 hq⟩
    have lz : (ws.map V.int).length < sizeLine := by rw [List.length_map, sizeLine_eq]; omega
    refine iteD (fun h => ?_) (fun h => ?_)
    · have h : (15 : Int) < 0 + (i : Int) := h
      one_sign
      refine iteD (fun h2 => ?_) (fun h2 => ?_)
      · one_sign
        refine ⟨_, _, rfl, by omega, by omega, fun c hcv => ?_⟩
        one_sign
        refine z_append q2 lz fun H3 f3 h3 n3 => ?_
        exact app c hcv H3 f3 h3
      · one_sign
        exact ⟨_, _, _, ws, rfl, q2, by omega, fun h => by omega, fun h => h17 (by omega), hev, f2⟩
    · have h : ¬ (15 : Int) < 0 + (i : Int) := h
      one_sign
      refine iteD (fun h2 => ?_) (fun h2 => ?_)
      · one_sign
        refine ⟨_, _, rfl, by omega, by omega, fun c hcv => ?_⟩
        one_sign
        refine z_append q2 lz fun H3 f3 h3 n3 => ?_
        exact app c hcv H3 f3 h3
      · one_sign
        refine z_append q2 lz fun H3 f3 h3 n3 => ?_
        exact app 0 (fun _ => by omega) H3 f3 h3
  · obtain ⟨r, v4, v5, ws, rfl, q2, hl, h16, h17, hev, f2⟩ := hI
    one_sign
    exact k q ws H2 q2 (h17 (by omega)) hl hev hq f2
end
/-- the whole space: its things O, its roots rs, the held words hs; X: the places that change -/
structure SS (C CS PT : Addr) (H : Hp) (sp dxs st dx wl pl pr rt hd : Addr) (al co least : Int) (O : List Ob) (kvs : List (Key × V)) (rs hs : List Int) : Prop where
  S : SpaceAt H CS sp dxs st pr rt hd al co rs hs
  T : StoreAt H C st dx wl pl 100000 100000 least (flat O) kvs
  N : ApartS sp st pr rt hd wl
  G : Good O kvs least
  sz : ∀ o ∈ O, o.sl.length ≤ 19
  nn : ∀ o ∈ O, 0 ≤ o.num
  lv : ∀ o ∈ O, o.live = true
  len : O.length ≤ 59
  rl : rs.length = 16
  hl : hs.length ≤ 4
  tab : LamX.TabS H PT qLam
def Spc (C CS PT : Addr) (H : Hp) (sp : Addr) (X : List Addr) (O : List Ob) (rs hs : List Int) : Prop := ∃ dxs st dx wl pl pr rt hd al co least kvs, X = [sp, st, wl, pl, rt, hd] ∧ SS C CS PT H sp dxs st dx wl pl pr rt hd al co least O kvs rs hs
theorem SS.keep {C CS PT : Addr} {H H' : Hp} {sp dxs st dx wl pl pr rt hd : Addr} {al co least : Int} {O : List Ob} {kvs : List (Key × V)} {rs hs : List Int} (s : SS C CS PT H sp dxs st dx wl pl pr rt hd al co least O kvs rs hs) (f : Fr [] H H') : SS C CS PT H' sp dxs st dx wl pl pr rt hd al co least O kvs rs hs :=
  ⟨s.S.keep f (by simp), s.T.keep f (by simp), s.N, s.G, s.sz, s.nn, s.lv, s.len, s.rl, s.hl, s.tab.ext fun b o e => f.g0 e⟩
theorem Spc.keep {C CS PT : Addr} {H H' : Hp} {sp : Addr} {X : List Addr} {O : List Ob} {rs hs : List Int} (s : Spc C CS PT H sp X O rs hs) (f : Fr [] H H') : Spc C CS PT H' sp X O rs hs := by
  obtain ⟨dxs, st, dx, wl, pl, pr, rt, hd, al, co, least, kvs, e, s⟩ := s
  exact ⟨dxs, st, dx, wl, pl, pr, rt, hd, al, co, least, kvs, e, s.keep f⟩
/-- a thing changes in its contents -/
theorem SS.change {C CS PT : Addr} {H H' : Hp} {sp dxs st dx wl pl pr rt hd : Addr} {al co least : Int} {O : List Ob} {kvs : List (Key × V)} {rs hs : List Int} (s : SS C CS PT H sp dxs st dx wl pl pr rt hd al co least O kvs rs hs) {i : Nat} {o o' : Ob} (h : O[i]? = some o) (hn : o'.num = o.num) (hv : o'.live = o.live) (hl : o'.sl.length = o.sl.length)
    (f : Fr [wl] H H') (hw : H' wl = some (.lst ((flat (O.set i o')).map V.int))) : SS C CS PT H' sp dxs st dx wl pl pr rt hd al co least (O.set i o') kvs rs hs := by
  have n1 := ne_of s.T.st s.T.wl (by intro z; cases z)
  have n2 := ne_of s.T.pl s.T.wl (by intro z; cases z)
  have n3 := ne_of s.S.sp s.T.wl (by intro z; cases z)
  have g := fun (x : Ob) (hx : x ∈ O.set i o') => (List.mem_or_eq_of_mem_set hx)
  have mo := List.mem_of_getElem? h
  refine ⟨s.S.keep f (fun b hb => ?_), ⟨f.g s.T.st (by simpa using n1), hw, f.g s.T.pl (by simpa using n2)⟩, s.N, s.G.same h hn hv hl, fun x hx => ?_, fun x hx => ?_, fun x hx => ?_, by rw [List.length_set]; exact s.len, s.rl, s.hl, tab_out s.tab f (fun b hb => ?_)⟩
  · simp only [List.mem_cons, List.not_mem_nil, or_false] at hb ⊢
    have := s.N
    rcases hb with e | e | e | e
    · rw [e]; exact n3
    · rw [e]; exact this.p
    · rw [e]; exact this.r
    · rw [e]; exact this.h
  · rcases g x hx with e | e
    · exact s.sz x e
    · rw [e, hl]; exact s.sz o mo
  · rcases g x hx with e | e
    · exact s.nn x e
    · rw [e, hn]; exact s.nn o mo
  · rcases g x hx with e | e
    · exact s.lv x e
    · rw [e, hv]; exact s.lv o mo
  · have e : b = wl := by simpa using hb
    rw [e]
    exact ⟨_, s.T.wl, (by intro ps z; cases z), (by intro ps z; cases z)⟩
/-- the roots change -/
theorem SS.root {C CS PT : Addr} {H H' : Hp} {sp dxs st dx wl pl pr rt hd : Addr} {al co least : Int} {O : List Ob} {kvs : List (Key × V)} {rs hs rs' : List Int} (s : SS C CS PT H sp dxs st dx wl pl pr rt hd al co least O kvs rs hs) (hl : rs'.length = rs.length)
    (f : Fr [rt] H H') (hw : H' rt = some (.lst (rs'.map V.int))) : SS C CS PT H' sp dxs st dx wl pl pr rt hd al co least O kvs rs' hs := by
  have n1 := ne_of s.T.st s.S.rt (by intro z; cases z)
  have n2 := ne_of s.T.pl s.S.rt (by intro z; cases z)
  have n3 := ne_of s.S.sp s.S.rt (by intro z; cases z)
  refine ⟨⟨f.g s.S.sp (by simpa using n3), f.g s.S.pr (by simpa using s.N.b), hw, f.g s.S.hd (by simpa using s.N.d.symm)⟩, ⟨f.g s.T.st (by simpa using n1), f.g s.T.wl (by simpa using s.N.r.symm), f.g s.T.pl (by simpa using n2)⟩, s.N, s.G, s.sz, s.nn, s.lv, s.len, hl.trans s.rl, s.hl, tab_out s.tab f (fun b hb => ?_)⟩
  have e : b = rt := by simpa using hb
  rw [e]
  exact ⟨_, s.S.rt, (by intro ps z; cases z), (by intro ps z; cases z)⟩
/-- a word more is held -/
theorem SS.held {C CS PT : Addr} {H H' : Hp} {sp dxs st dx wl pl pr rt hd : Addr} {al co least : Int} {O : List Ob} {kvs : List (Key × V)} {rs hs hs' : List Int} (s : SS C CS PT H sp dxs st dx wl pl pr rt hd al co least O kvs rs hs) (hl : hs'.length ≤ 4)
    (f : Fr [hd] H H') (hw : H' hd = some (.lst (hs'.map V.int))) : SS C CS PT H' sp dxs st dx wl pl pr rt hd al co least O kvs rs hs' := by
  have n1 := ne_of s.T.st s.S.hd (by intro z; cases z)
  have n2 := ne_of s.T.pl s.S.hd (by intro z; cases z)
  have n3 := ne_of s.S.sp s.S.hd (by intro z; cases z)
  refine ⟨⟨f.g s.S.sp (by simpa using n3), f.g s.S.pr (by simpa using s.N.c), f.g s.S.rt (by simpa using s.N.d), hw⟩, ⟨f.g s.T.st (by simpa using n1), f.g s.T.wl (by simpa using s.N.h.symm), f.g s.T.pl (by simpa using n2)⟩, s.N, s.G, s.sz, s.nn, s.lv, s.len, s.rl, hl, tab_out s.tab f (fun b hb => ?_)⟩
  have e : b = hd := by simpa using hb
  rw [e]
  exact ⟨_, s.S.hd, (by intro ps z; cases z), (by intro ps z; cases z)⟩

end LX
namespace LX
open PySem PySem.Spec PyProof.Rows L2 NdefX
set_option hygiene false in
local macro_rules | `(tactic| k_memK) => `(tactic| first | exact W.na_Store_room | exact W.na_Store_entries | exact W.na_Store_words | exact W.na_Store__places | exact W.na_Store__least | exact W.na_Space_store | exact W.na_Space_pressure | exact W.na_Space_always | exact W.na_Space_allocations | exact W.na_Space_collections | exact W.na_Space__roots | exact W.na_Space__held | exact W.na_Space__saved)
set_option hygiene false in
local macro_rules | `(tactic| k_ownIn) => `(tactic| first | exact W.C_Store | exact W.C_Space)
local macro_rules | `(tactic| none_booked) => `(tactic| first | assumption | (refine Fr.g0 (by assumption) ?_; none_booked))
local macro_rules | `(tactic| one_sign) => `(tactic| repeat (first
  | refine Stp.h ?_
  | ((with_reducible refine' z_fld1 ?k0 ?k1 ?k2 ?k3 ?_); (case k0 => none_booked); (case k1 => k_ownIn); (case k2 => k_memK); (case k3 => rfl))
  | ((with_reducible refine' z_meth1 ?k0 ?k1 ?_); (case k0 => none_booked); (case k1 => rfl))
  | ((with_reducible refine' z_bmL ?k0 ?_); (case k0 => none_booked))
  | ((with_reducible refine' z_lenL ?k0 ?_); (case k0 => none_booked))
  | ((with_reducible refine' z_lenT ?k0 ?_); (case k0 => none_booked))
  | ((with_reducible refine' z_lenD ?k0 ?_); (case k0 => none_booked))
  | ((with_reducible refine' z_truL ?k0 ?_); (case k0 => none_booked))
  | ((with_reducible refine' z_truD ?k0 ?_); (case k0 => none_booked))
  | ((with_reducible refine' z_truT ?k0 ?_); (case k0 => none_booked))
  | ((with_reducible refine' z_inDIP ?k0 ?_); (case k0 => none_booked))
  | ((with_reducible refine' z_inDIN ?k0 ?_); (case k0 => none_booked))
  | ((with_reducible refine' z_inDfP ?k0 ?_); (case k0 => none_booked))
  | ((with_reducible refine' z_inDfN ?k0 ?_); (case k0 => none_booked))
  | ((with_reducible refine' z_iList1 ?k0 ?_); (case k0 => none_booked))
  | ((with_reducible refine' z_isi0 ?k0 ?k1 ?k2 ?_); (case k0 => exact (ClsV.ty _)); (case k1 => exact (TyX.base (TyOf.lst (by none_booked)))); (case k2 => first | exact kt_list_int | exact kt_list_bool | exact kt_list_str | exact kt_list_list | exact kt_list_tuple | exact kt_list_dict))
  | ((with_reducible refine' z_rI ?k0 ?_); (case k0 => first | exact (by decide : (0 : Int) < _) | exact ⟨by decide, by decide⟩ | exact ⟨by decide, by decide, by decide⟩ | (show (0 : Int) < _; omega)))
  | ((with_reducible refine' z_mulI ?k0 ?_); (case k0 => first | exact Or.inr ⟨by decide, by decide⟩ | exact Or.inl ⟨by decide, by decide⟩ | exact Or.inl ⟨by omega, by omega⟩ | exact Or.inr ⟨by omega, by omega⟩))))
local macro_rules | `(tactic| leaf_len) => `(tactic| (simp only [wipe, List.map_cons, List.map_nil, List.set_cons_zero, List.set_cons_succ]; one_sign; refine z_ok rfl ?_; one_sign))
theorem Fr.inF {H0 H H1 : Hp} {F : List Addr} (f : Fr [] H0 H) (g : Fr F H H1) (hq : ∀ q ∈ F, H0 q = Option.none) : Fr [] H0 H1 := fun b o e _ => g b o (f.g0 e) (fun hm => by rw [hq b hm] at e; cases e)
theorem Good.empty : Good [] [] 0 := ⟨fun k v => ⟨fun h => (by simp [valV] at h), fun ⟨i, o, h, _⟩ => by simp at h⟩, by simp, fun i j o o' h => by simp at h, ⟨Int.le_refl _, fun n h0 h1 => by omega⟩⟩
def Idx (O : List Ob) : Prop := ∀ (i : Nat) (o : Ob), O[i]? = some o → o.num = i
theorem Idx.live {O : List Ob} (h : Idx O) (hl : ∀ o ∈ O, o.live = true) (n : Int) : Live O n ↔ 0 ≤ n ∧ n < O.length := by
  constructor
  · rintro ⟨i, o, h1, h2, h3⟩
    have := (List.getElem?_eq_some_iff.mp h1).1
    have := h i o h1
    omega
  · rintro ⟨h0, h1⟩
    have e := List.getElem?_eq_getElem (l := O) (i := n.toNat) (by omega)
    exact ⟨n.toNat, _, e, hl _ (List.mem_of_getElem? e), by rw [h _ _ e]; omega⟩
/-- a thing more -/
theorem SS.add {C CS PT : Addr} {H H' : Hp} {sp dxs st dx wl pl pr rt hd : Addr} {al co least : Int} {O : List Ob} {kvs : List (Key × V)} {rs hs : List Int} (s : SS C CS PT H sp dxs st dx wl pl pr rt hd al co least O kvs rs hs) {m x al' : Int} {z : Nat} (hz : z ≤ 19) (ho : O.length ≤ 58)
    (S' : SpaceAt H' CS sp dxs st pr rt hd al' co rs hs) (T' : StoreAt H' C st dx wl pl 100000 100000 m (flat O ++ (m :: (z : Int) :: x :: List.replicate z 0)) (putK kvs (.inl m) (.int ((flat O).length : Int)))) (f : Fr [sp, st, wl, pl] H H') (hs1 : Seen kvs m) (hm : valV kvs (.inl m) = none) :
    SS C CS PT H' sp dxs st dx wl pl pr rt hd al' co m (O ++ [{ num := m, kind := x, sl := List.replicate z 0, live := true }]) (putK kvs (.inl m) (.int ((flat O).length : Int))) rs hs := by
  have eF : flat O ++ (m :: (z : Int) :: x :: List.replicate z 0) = flat (O ++ [{ num := m, kind := x, sl := List.replicate z 0, live := true }]) := by
    rw [flat_app]
    show _ = _ ++ (fl _ ++ [])
    rw [List.append_nil]
    unfold fl
    rw [List.length_replicate]
  rw [eF] at T'
  have g := fun (y : Ob) (hy : y ∈ O ++ [({ num := m, kind := x, sl := List.replicate z 0, live := true } : Ob)]) => List.mem_append.mp hy
  refine ⟨S', T', s.N, s.G.add (o := { num := m, kind := x, sl := List.replicate z 0, live := true }) rfl hm hs1, fun y hy => ?_, fun y hy => ?_, fun y hy => ?_, by rw [List.length_append]; show O.length + 1 ≤ 59; omega, s.rl, s.hl, tab_out s.tab f (fun b hb => ?_)⟩
  · rcases g y hy with e | e
    · exact s.sz y e
    · have e := List.mem_singleton.mp e
      subst e
      show (List.replicate z (0 : Int)).length ≤ 19
      rw [List.length_replicate]; exact hz
  · rcases g y hy with e | e
    · exact s.nn y e
    · have e := List.mem_singleton.mp e
      subst e
      exact hs1.1
  · rcases g y hy with e | e
    · exact s.lv y e
    · have e := List.mem_singleton.mp e
      subst e
      rfl
  · simp only [List.mem_cons, List.not_mem_nil, or_false] at hb
    rcases hb with e | e | e | e <;> subst e
    · exact ⟨_, s.S.sp, (by intro ps z; cases z), (by intro ps z; cases z)⟩
    · exact ⟨_, s.T.st, (by intro ps z; cases z), (by intro ps z; cases z)⟩
    · exact ⟨_, s.T.wl, (by intro ps z; cases z), (by intro ps z; cases z)⟩
    · exact ⟨_, s.T.pl, (by intro ps z; cases z), (by intro ps z; cases z)⟩
theorem SS.flen {C CS PT : Addr} {H : Hp} {sp dxs st dx wl pl pr rt hd : Addr} {al co least : Int} {O : List Ob} {kvs : List (Key × V)} {rs hs : List Int} (s : SS C CS PT H sp dxs st dx wl pl pr rt hd al co least O kvs rs hs) : (flat O).length ≤ 42 * 59 ∧ kvs.length ≤ 59 := by
  have h1 := flat_len (O := O) fun o ho => Nat.le_trans (s.sz o ho) (by decide)
  have h2 := s.G.kl
  have := s.len
  omega
/-- the things are those of the rows, but for what is not put yet -/
structure Fil (R : List (List Int)) (O : List Ob) (i a : Nat) : Prop where
  ix : Idx O
  it : ∀ (j : Nat) (o : Ob), O[j]? = some o → ∃ r, R[j]? = some r ∧ r[0]? = some o.kind ∧ o.sl.length + 1 = r.length ∧ ∀ b, (j < i ∨ j = i ∧ b < a) → o.sl[b]? = r[b + 1]?
theorem Fil.row {R : List (List Int)} {O : List Ob} {i : Nat} (f : Fil R O i 0) (hi : O.length ≤ i) (hl : O.length = R.length) : O.map rowOf = R := by
  refine List.ext_getElem? fun j => ?_
  rw [List.getElem?_map]
  cases e : O[j]? with
  | none =>
    have := List.getElem?_eq_none_iff.mp e
    exact (List.getElem?_eq_none_iff.mpr (by omega)).symm
  | some o =>
    obtain ⟨r, hr, h0, hlen, hb⟩ := f.it j o e
    rw [hr]
    have hj := (List.getElem?_eq_some_iff.mp e).1
    show some (o.kind :: o.sl) = some r
    congr 1
    refine List.ext_getElem? fun b => ?_
    cases b with
    | zero => rw [h0]; rfl
    | succ b => rw [List.getElem?_cons_succ, hb b (Or.inl (by omega))]
theorem Fil.next {R : List (List Int)} {O : List Ob} {i a : Nat} {r : List Int} (f : Fil R O i a) (hr : R[i]? = some r) (ha : r.length ≤ a + 1) : Fil R O (i + 1) 0 := by
  refine ⟨f.ix, fun j o ho => ?_⟩
  obtain ⟨r', hr', h0, hl, hb⟩ := f.it j o ho
  refine ⟨r', hr', h0, hl, fun b h => ?_⟩
  by_cases e : j = i
  · subst e
    rw [hr] at hr'
    cases hr'
    by_cases hb2 : b < a
    · exact hb b (Or.inr ⟨rfl, hb2⟩)
    · rw [List.getElem?_eq_none_iff.mpr (by omega), List.getElem?_eq_none_iff.mpr (by omega)]
  · exact hb b (Or.inl (by omega))
theorem Fil.put {R : List (List Int)} {O : List Ob} {i a : Nat} {r : List Int} {o : Ob} {x : Int} (f : Fil R O i a) (ho : O[i]? = some o) (hr : R[i]? = some r) (hx : r[a + 1]? = some x) : Fil R (O.set i { o with sl := o.sl.set a x }) i (a + 1) := by
  obtain ⟨r0, hr0, h0, hl, hb⟩ := f.it i o ho
  rw [hr] at hr0
  cases hr0
  have hal := (List.getElem?_eq_some_iff.mp hx).1
  refine ⟨fun j p hp => ?_, fun j p hp => ?_⟩
  · rw [set_get ho] at hp
    by_cases e : j = i
    · rw [if_pos e] at hp; cases hp
      rw [e]
      exact f.ix i o ho
    · rw [if_neg e] at hp; exact f.ix j p hp
  · rw [set_get ho] at hp
    by_cases e : j = i
    · rw [if_pos e] at hp; cases hp
      subst e
      refine ⟨r, hr, h0, by show (o.sl.set a x).length + 1 = _; rw [List.length_set]; exact hl, fun b h => ?_⟩
      show (o.sl.set a x)[b]? = _
      rw [List.getElem?_set]
      by_cases e2 : a = b
      · subst e2
        rw [if_pos rfl, if_pos (by omega), hx]
      · rw [if_neg e2]
        exact hb b (Or.inr ⟨rfl, by omega⟩)
    · rw [if_neg e] at hp
      obtain ⟨r', hr', h0', hl', hb'⟩ := f.it j p hp
      exact ⟨r', hr', h0', hl', fun b h => hb' b (Or.inl (by omega))⟩
theorem ref_at {A : List Addr} {i : Nat} {a : Addr} (h : A[i]? = some a) : (A.map V.ref)[i]? = some (V.ref a) := by rw [List.getElem?_map, h]; rfl
section
variable {P : Program} {w : World} {K : PySem.W.Frag} {mg : Str → Option Value} {base : Heap}
def sp_lspace (C CS PT : Addr) : Sp := fun vs H Q _ => ∃ (ra wa : Addr) (A : List Addr) (R : List (List Int)) (ws : List Int), vs = [.ref ra, .ref wa] ∧ H ra = some (.lst (A.map V.ref)) ∧ RwL H A R ∧ R.length ≤ 59 ∧ (∀ r ∈ R, 1 ≤ r.length ∧ r.length ≤ 20) ∧ H wa = some (.lst (ws.map V.int)) ∧ 16 ≤ ws.length ∧ ws.length ≤ 20 ∧ LamX.TabS H PT qLam ∧
  ∀ sp X O rs hs H', Spc C CS PT H' sp X O rs hs → rs ++ hs = ws → O.map rowOf = R → Idx O → (∀ b ∈ X, H b = none) → Fr [] H H' → Q (.ref sp) H'
theorem ok__law_space (W : WT P K mg base) : FnOk P w K mg base CX0 8 W.f__law_space W.fd__law_space ["_law_rows_here", "_law_words"] (sp_lspace W.c_Store W.c_Space W.PT_Store_close_up) := by
  refine W.F__law_space.ok sc__law_space (fun vs H Q E h => by obtain ⟨ra, wa, A, R, ws, rfl, hra, L, hR, hR2, hwa, h16, h20, tab, k⟩ := h; rfl) (fun cdv A outer s H vs Q E hr h => ?_)
  obtain ⟨ra, wa, A, R, ws, rfl, hra, L, hR, hR2, hwa, h16, h20, tab, k⟩ := h
  have hu1 := hu_of hr
  have hu64 := hu64_of hr
  refine ⟨_, (pss_cons (ps_set (i := 2) sc__law_space.nd rfl (by first | exact Or.inl rfl | exact Or.inr rfl) (pe_make W.M_Space (ok_Space___init__ W) (hr.mono (by decide)) rfl W.g_Space W.b_Space___init__ .nil pass0 (pa_cons pe_int (pa_cons pe_int pa_nil))))
      (pss_cons (ps_for PassesOwn.never rfl (pi_range1 (by rfl) W.n_range (pa_cons (pe_callB call_lenU (by rfl) W.n_len bb_len (pa_cons (pv 0) pa_nil)) pa_nil)) (pg_name (i := 3) sc__law_space.nd rfl (by first | exact Or.inl rfl | exact Or.inr rfl)) (pss_one (ps_if (pt_not (pt_truth (pe_call (ok__law_is W) (hr.mono (by decide)) rfl W.g__law_is W.F__law_is.kp W.b__law_is .nil pass0 (pa_cons (pe_meth (pv 2) W.C_Space W.m_Space_new (ok_Space_new W) (hr.mono (by decide)) W.b_Space_new .nil pass0 (pa_cons (pe_ix (ix_U hu1) (pe_ix (ix_U hu1) (pv 0) (pv 3) (fun _ _ => rfl)) pe_int (fun _ _ => rfl)) (pa_cons (pe_op op_sub (pe_callB call_lenU (by rfl) W.n_len bb_len (pa_cons (pe_ix (ix_U hu1) (pv 0) (pv 3) (fun _ _ => rfl)) pa_nil)) pe_int) pa_nil))) (pa_cons (pv 3) pa_nil))) (by intro _; rfl))) (pss_one (ps_ret pe_non)) pss_nil)))
      (pss_cons (ps_for PassesOwn.never rfl (pi_range1 (by rfl) W.n_range (pa_cons (pe_callB call_lenU (by rfl) W.n_len bb_len (pa_cons (pv 0) pa_nil)) pa_nil)) (pg_name (i := 3) sc__law_space.nd rfl (by first | exact Or.inl rfl | exact Or.inr rfl)) (pss_one (ps_for PassesOwn.never rfl (pi_range1 (by rfl) W.n_range (pa_cons (pe_op op_sub (pe_callB call_lenU (by rfl) W.n_len bb_len (pa_cons (pe_ix (ix_U hu1) (pv 0) (pv 3) (fun _ _ => rfl)) pa_nil)) pe_int) pa_nil)) (pg_name (i := 4) sc__law_space.nd rfl (by first | exact Or.inl rfl | exact Or.inr rfl)) (pss_one (ps_expr (pe_meth (pe_fld (pv 2) rfl) W.C_Store W.m_Store_put (ok_Store_put W) (hr.mono (by decide)) W.b_Store_put .nil pass0 (pa_cons (pv 3) (pa_cons (pv 4) (pa_cons (pe_ix (ix_U hu1) (pe_ix (ix_U hu1) (pv 0) (pv 3) (fun _ _ => rfl)) (pe_op op_addU (pv 4) pe_int) (fun _ _ => rfl)) pa_nil)))))))))
      (pss_cons (ps_for PassesOwn.never rfl (pi_range1 (by rfl) W.n_range (pa_cons (pe_callB call_lenU (by rfl) W.n_len bb_len (pa_cons (pv 1) pa_nil)) pa_nil)) (pg_name (i := 3) sc__law_space.nd rfl (by first | exact Or.inl rfl | exact Or.inr rfl)) (pss_one (ps_if (pt_cmpR op_ltU (pv 3) pe_int (by first | exact nomark _ | rfl)) (pss_one (ps_expr (pe_meth (pv 2) W.C_Space W.m_Space_set_root (ok_Space_set_root W) (hr.mono (by decide)) W.b_Space_set_root .nil pass0 (pa_cons (pv 3) (pa_cons (pe_ix (ix_U hu1) (pv 1) (pv 3) (fun _ _ => rfl)) pa_nil))))) (pss_one (ps_expr (pe_meth (pv 2) W.C_Space W.m_Space_hold (ok_Space_hold W) (hr.mono (by decide)) W.b_Space_hold .nil pass0 (pa_cons (pe_ix (ix_U hu1) (pv 1) (pv 3) (fun _ _ => rfl)) pa_nil)))))))
      (pss_one (ps_ret (pv 2))))))), ?_⟩
  refine z_start (σ := [some _, some _, none, none, none]) rfl ?_
  one_sign
  intro sp dxs hsp hdx ndx
  have hx0 : upd H dxs (.own sp) sp = none := by rw [upd_ne ndx.symm]; exact hsp
  have f0 : Fr [] H (upd (upd H dxs (.own sp)) sp (.ins W.c_Space dxs [])) := (Fr.new hdx).trans (Fr.new hx0)
  refine ⟨sp, dxs, 100000, 100000, rfl, upd_same, fun H1 st dx wl pl pr rt hd S T N old fresh => ⟨rfl, ?_⟩⟩
  have f1 : Fr [] H H1 := fun b o e _ => old b o (f0.g0 e) (ne_of_none e hsp)
  have nX : ∀ q ∈ [sp, st, wl, pl, rt, hd], H q = none := fun q hq => by
    simp only [List.mem_cons, List.not_mem_nil, or_false] at hq
    rcases hq with e | e | e | e | e | e <;> subst e
    · exact hsp
    all_goals exact f0.none (fresh _ (by simp))
  clear old fresh f0 hx0
  have ss1 : SS W.c_Store W.c_Space W.PT_Store_close_up H1 sp dxs st dx wl pl pr rt hd 0 0 0 [] [] (List.replicate 16 0) [] := ⟨S, T, N, Good.empty, by simp, by simp, by simp, by simp, by simp, by simp, tab.ext fun b o e => f1.g0 e⟩
  clear S T
  have hra1 := f1.g0 hra
  one_sign
  rw [List.length_map, L.len]
  refine z_rng1 R.length rfl (by omega) ?_
  refine for_range (lo := 0) (n := R.length) (fun i σ H' => ∃ (v3 v4 : Option V) (al least : Int) (O : List Ob) (kvs : List (Key × V)), σ = [some (.ref ra), some (.ref wa), some (.ref sp), v3, v4] ∧ SS W.c_Store W.c_Space W.PT_Store_close_up H' sp dxs st dx wl pl pr rt hd al 0 least O kvs (List.replicate 16 0) [] ∧ O.length = i ∧ Fil R O 0 0 ∧ Fr [] H H')
    ⟨_, _, _, _, [], [], rfl, ss1, rfl, ⟨fun i o h => by simp at h, fun i o h => by simp at h⟩, f1⟩ (fun i σ H2 hi hI => ?_) (fun σ H2 hI => ?_)
  · obtain ⟨v3, v4, al, least, O, kvs, rfl, ss, hO, fil, f2⟩ := hI
    obtain ⟨a, hA⟩ : ∃ a, A[i]? = some a := ⟨_, List.getElem?_eq_getElem (by rw [L.len]; exact hi)⟩
    obtain ⟨r, hRi⟩ : ∃ r, R[i]? = some r := ⟨_, List.getElem?_eq_getElem hi⟩
    have ha := f2.g0 (L.it i a r hA hRi)
    obtain ⟨l1, l2⟩ := hR2 r (List.mem_of_getElem? hRi)
    obtain ⟨x, hr0⟩ : ∃ x, r[0]? = some x := ⟨_, List.getElem?_eq_getElem (by omega)⟩
    have hra2 := f2.g0 hra
    one_sign
    refine z_meth1 ss.S.sp rfl ?_
    one_sign
    refine z_ixL hra2 (by rw [Int.zero_add]; exact atI_nat (ref_at hA)) ?_
    one_sign
    refine z_ixL ha (atI_nat (j := 0) (int_at hr0)) ?_
    one_sign
    refine z_ixL hra2 (by rw [Int.zero_add]; exact atI_nat (ref_at hA)) ?_
    one_sign
    obtain ⟨z, hz⟩ : ∃ z, r.length = z + 1 := ⟨r.length - 1, by omega⟩
    have hfl := ss.flen
    refine ⟨sp, dxs, st, pr, rt, hd, al, 0, _, _, dx, wl, pl, 100000, 100000, least, flat O, kvs, x, z, by rw [List.length_map, hz, show ((z + 1 : Nat) : Int) - 1 = (z : Int) by omega]; rfl, ss.S, ss.T, ss.N, ss.G.seen, by omega, by omega, by omega, by omega, fun m H3 S3 T3 f3 hs3 hm3 => ?_⟩
    have f3' : Fr [] H H3 := f2.inF f3 (fun q hq => nX q (by simp only [List.mem_cons, List.not_mem_nil, or_false] at hq ⊢; rcases hq with e | e | e | e <;> simp [e]))
    have ss3 := ss.add (by omega) (by omega) S3 T3 f3 hs3 hm3
    have em : m = (i : Int) := by
      have iffL := fun n => (ss.G.iff n).trans (fil.ix.live ss.lv n)
      have h1 : ¬ (m < (O.length : Int)) := fun h => by
        have := (iffL m).mpr ⟨hs3.1, h⟩
        rw [hm3] at this
        cases this
      have h2 : ¬ ((O.length : Int) < m) := fun h => by
        have := (iffL (O.length : Int)).mp (hs3.2 (O.length : Int) (by omega) h)
        omega
      omega
    one_sign
    refine ⟨_, _, rfl, ?_⟩
    one_sign
    rw [decide_eq_true (by omega : m = 0 + (i : Int))]
    one_sign
    refine ⟨_, _, al + 1, m, _, _, rfl, ss3, by rw [List.length_append, hO]; rfl, ⟨fun j o hj => ?_, fun j o hj => ?_⟩, f3'⟩
    · rcases get_snoc hj with hj | ⟨e1, e2⟩
      · exact fil.ix j o hj
      · rw [e2]; show m = (j : Int); omega
    · rcases get_snoc hj with hj | ⟨e1, e2⟩
      · exact fil.it j o hj
      · rw [e2]
        exact ⟨r, by rw [e1, hO]; exact hRi, hr0, by show (List.replicate z (0 : Int)).length + 1 = r.length; rw [List.length_replicate, hz], fun b h => by omega⟩
  obtain ⟨v3, v4, al, least, O, kvs, rfl, ss, hO, fil, f2⟩ := hI
  have hra2 := f2.g0 hra
  one_sign
  rw [List.length_map, L.len]
  refine z_rng1 R.length rfl (by omega) ?_
  refine for_range (lo := 0) (n := R.length) (fun i σ H' => ∃ (v3 v4 : Option V) (O : List Ob), σ = [some (.ref ra), some (.ref wa), some (.ref sp), v3, v4] ∧ SS W.c_Store W.c_Space W.PT_Store_close_up H' sp dxs st dx wl pl pr rt hd al 0 least O kvs (List.replicate 16 0) [] ∧ O.length = R.length ∧ Fil R O i 0 ∧ Fr [] H H')
    ⟨_, _, _, rfl, ss, hO, fil, f2⟩ (fun i σ H2 hi hI => ?_) (fun σ H3 hI => ?_)
  · obtain ⟨v3, v4, O, rfl, ss, hO, fil, f2⟩ := hI
    obtain ⟨a, hA⟩ : ∃ a, A[i]? = some a := ⟨_, List.getElem?_eq_getElem (by rw [L.len]; exact hi)⟩
    obtain ⟨r, hRi⟩ : ∃ r, R[i]? = some r := ⟨_, List.getElem?_eq_getElem hi⟩
    have ha := f2.g0 (L.it i a r hA hRi)
    obtain ⟨l1, l2⟩ := hR2 r (List.mem_of_getElem? hRi)
    have hra2 := f2.g0 hra
    one_sign
    refine z_ixL hra2 (by rw [Int.zero_add]; exact atI_nat (ref_at hA)) ?_
    one_sign
    rw [List.length_map]
    obtain ⟨z, hz⟩ : ∃ z, r.length = z + 1 := ⟨r.length - 1, by omega⟩
    refine z_rng1 z (by omega) (by omega) ?_
    refine for_range (lo := 0) (n := z) (fun j σ H' => ∃ (v4 : Option V) (O : List Ob), σ = [some (.ref ra), some (.ref wa), some (.ref sp), some (.int (0 + (i : Int))), v4] ∧ SS W.c_Store W.c_Space W.PT_Store_close_up H' sp dxs st dx wl pl pr rt hd al 0 least O kvs (List.replicate 16 0) [] ∧ O.length = R.length ∧ Fil R O i j ∧ Fr [] H H')
      ⟨_, _, rfl, ss, hO, fil, f2⟩ (fun j σ H3 hj hI => ?_) (fun σ H3 hI => ?_)
    · obtain ⟨v4, O, rfl, ss, hO, fil, f3⟩ := hI
      have hra3 := f3.g0 hra
      have ha3 := f3.g0 (L.it i a r hA hRi)
      have T3 := ss.T
      have hst := ss.T.st
      have hsp3 := ss.S.sp
      obtain ⟨x, hx⟩ : ∃ x, r[j + 1]? = some x := ⟨_, List.getElem?_eq_getElem (by omega)⟩
      obtain ⟨o, ho⟩ : ∃ o, O[i]? = some o := ⟨_, List.getElem?_eq_getElem (by omega)⟩
      one_sign
      refine z_ixL hra3 (by rw [Int.zero_add]; exact atI_nat (ref_at hA)) ?_
      one_sign
      refine z_ixL ha3 (by rw [Int.zero_add]; exact atI_nat (j := j + 1) (int_at hx)) ?_
      one_sign
      obtain ⟨r', hr', h0, hl, hb⟩ := fil.it i o ho
      rw [hRi] at hr'
      cases hr'
      have hol := off_lt ho
      have hlo := ss.lv o (List.mem_of_getElem? ho)
      have hno := fil.ix i o ho
      refine ⟨st, dx, wl, pl, _, _, least, _, kvs, (i : Int), off O i, j, x, by rw [Int.zero_add, Int.zero_add]; rfl, T3, by rw [← hno]; exact ss.G.at ho hlo, by omega, ?_⟩
      rw [set_slot x ho (by omega)]
      one_sign
      have ss' := ss.change (o' := { o with sl := o.sl.set j x }) ho rfl rfl (by show (o.sl.set j x).length = _; rw [List.length_set]) (Fr.at (H := H3) (q := wl) (o := .lst ((flat (O.set i { o with sl := o.sl.set j x })).map V.int)) (by simp)) upd_same
      exact ⟨_, _, rfl, ss', by rw [List.length_set]; exact hO, fil.put ho hRi hx, f3.inF (Fr.at (F := [wl]) (by simp)) (fun q hq => nX q (by simp at hq; simp [hq]))⟩
    · obtain ⟨v4, O, rfl, ss, hO, fil, f3⟩ := hI
      one_sign
      exact ⟨_, _, O, rfl, ss, hO, fil.next hRi (by omega), f3⟩
  obtain ⟨v3, v4, O, rfl, ss, hO, fil, f3⟩ := hI
  have hrow := fil.row (by omega) hO
  have hidx := fil.ix
  have hwa3 := f3.g0 hwa
  one_sign
  rw [List.length_map]
  refine z_rng1 ws.length rfl (by omega) ?_
  refine for_range (lo := 0) (n := ws.length) (fun i σ H' => ∃ (v3 v4 : Option V) (rs hs : List Int), σ = [some (.ref ra), some (.ref wa), some (.ref sp), v3, v4] ∧ SS W.c_Store W.c_Space W.PT_Store_close_up H' sp dxs st dx wl pl pr rt hd al 0 least O kvs rs hs ∧ (i ≤ 16 → hs = [] ∧ rs.take i = ws.take i) ∧ (16 ≤ i → rs ++ hs = ws.take i) ∧ Fr [] H H')
    ⟨_, _, _, [], rfl, ss, fun _ => ⟨rfl, rfl⟩, fun h => by omega, f3⟩ (fun i σ H4 hi hI => ?_) (fun σ H4 hI => ?_)
  · obtain ⟨v3, v4, rs, hs, rfl, ss, h1, h2, f4⟩ := hI
    have hwa4 := f4.g0 hwa
    obtain ⟨x, hx⟩ : ∃ x, ws[i]? = some x := ⟨_, List.getElem?_eq_getElem hi⟩
    have hsp4 := ss.S.sp
    one_sign
    have rl := ss.rl
    refine iteD (fun h => ?_) (fun h => ?_)
    · have h : 0 + (i : Int) < 16 := h
      one_sign
      refine z_ixL hwa4 (by rw [Int.zero_add]; exact atI_nat (int_at hx)) ?_
      one_sign
      refine ⟨sp, dxs, st, pr, rt, hd, al, 0, rs, hs, i, x, by rw [Int.zero_add]; rfl, ss.S, by omega, ?_⟩
      one_sign
      have ss' := ss.root (rs' := rs.set i x) (by rw [List.length_set]) (Fr.at (H := H4) (q := rt) (o := .lst ((rs.set i x).map V.int)) (by simp)) upd_same
      obtain ⟨e1, e2⟩ := h1 (by omega)
      have e3 : (rs.set i x).take (i + 1) = ws.take (i + 1) := by
        rw [List.take_succ, List.take_succ, List.take_set_of_le (Nat.le_refl _), e2, List.getElem?_set_self (by omega), hx]
      refine ⟨_, _, _, hs, rfl, ss', fun _ => ⟨e1, e3⟩, fun h16 => ?_, f4.inF (Fr.at (F := [rt]) (by simp)) (fun q hq => nX q (by simp at hq; simp [hq]))⟩
      rw [e1, List.append_nil, ← e3]
      exact (List.take_of_length_le (by rw [List.length_set]; omega)).symm
    · have h : ¬ 0 + (i : Int) < 16 := h
      one_sign
      refine z_ixL hwa4 (by rw [Int.zero_add]; exact atI_nat (int_at hx)) ?_
      one_sign
      have e2 := h2 (by omega)
      have hh : hs.length + 16 = i := by
        have := congrArg List.length e2
        rw [List.length_append, List.length_take] at this
        omega
      refine ⟨sp, dxs, st, pr, rt, hd, al, 0, rs, hs, x, rfl, ss.S, by have := ss.hl; omega, ?_⟩
      one_sign
      have ss' := ss.held (hs' := hs ++ [x]) (by rw [List.length_append]; show hs.length + 1 ≤ 4; omega) (Fr.at (H := H4) (q := hd) (o := .lst ((hs ++ [x]).map V.int)) (by simp)) upd_same
      refine ⟨_, _, _, _, rfl, ss', fun h => by omega, fun _ => ?_, f4.inF (Fr.at (F := [hd]) (by simp)) (fun q hq => nX q (by simp at hq; simp [hq]))⟩
      rw [← List.append_assoc, e2, List.take_succ, hx]
      rfl
  · obtain ⟨v3, v4, rs, hs, rfl, ss, h1, h2, f4⟩ := hI
    one_sign
    exact k sp _ O rs hs H4 ⟨_, _, _, _, _, _, _, _, _, _, _, _, rfl, ss⟩ (by rw [h2 h16, List.take_length]) hrow hidx nX f4
end

end LX
namespace LX
open PySem PySem.Spec PyProof.Rows L2 NdefX
/-! ### walks along paths, plainly -/
def nextRow (R : List (List Int)) (w : Int) : Option (List Int) := if w % 2 = 0 ∧ 0 ≤ w then R[(w / 2).toNat]? else none
def stepW (row : List Int) (k : Int) : Option Int := if 0 ≤ k then row[k.toNat]? else none
def wst (R : List (List Int)) (r0 : List Int) (s : Option (Option Int)) (k : Int) : Option (Option Int) := match s with
  | none => none
  | some none => (stepW r0 k).map some
  | some (some w) => ((nextRow R w).bind fun row => stepW row k).map some
def walkS (R : List (List Int)) (r0 p : List Int) : Option (Option Int) := p.foldl (wst R r0) (some none)
def walkW (R : List (List Int)) (r0 p : List Int) : Option Int := (walkS R r0 p).bind id
theorem wst_dead (R : List (List Int)) (r0 : List Int) : ∀ l : List Int, l.foldl (wst R r0) none = none
  | [] => rfl
  | _ :: l => wst_dead R r0 l
theorem walkS_take {R : List (List Int)} {r0 p : List Int} {i : Nat} {k : Int} (h : p[i]? = some k) : walkS R r0 (p.take (i + 1)) = wst R r0 (walkS R r0 (p.take i)) k := by
  unfold walkS
  rw [List.take_succ, h, List.foldl_append]
  rfl
theorem walkS_dead {R : List (List Int)} {r0 p : List Int} {i : Nat} (h : walkS R r0 (p.take i) = none) : walkW R r0 p = none := by
  have e : walkS R r0 p = (p.drop i).foldl (wst R r0) (walkS R r0 (p.take i)) := by
    unfold walkS
    rw [← List.foldl_append, List.take_append_drop]
  unfold walkW
  rw [e, h, wst_dead]
  rfl
theorem stepW_in {row : List Int} {k : Int} (h0 : 0 ≤ k) (h1 : k < row.length) : ∃ w, stepW row k = some w ∧ row[k.toNat]? = some w := by
  have e := List.getElem?_eq_getElem (l := row) (i := k.toNat) (by omega)
  exact ⟨_, by unfold stepW; rw [if_pos h0, e], e⟩
theorem stepW_out {row : List Int} {k : Int} (h : ¬ (0 ≤ k ∧ k < row.length)) : stepW row k = none := by
  unfold stepW
  split
  · exact List.getElem?_eq_none_iff.mpr (by omega)
  · rfl
/-! ### the layers of the search, plainly -/
def objN (R : List (List Int)) (w : Int) : Option Int := if w % 2 = 0 ∧ 0 ≤ w / 2 ∧ w / 2 < R.length then some (w / 2) else none
def rnd1 (R : List (List Int)) (F : List (Int × List Int)) (x : List Int × Int) : List (Int × List Int) := match objN R x.2 with
  | some n => if n ∈ F.map (·.1) then F else F ++ [(n, x.1)]
  | none => F
def rnd (R : List (List Int)) (F : List (Int × List Int)) (W : List (List Int × Int)) : List (Int × List Int) := W.foldl (rnd1 R) F
def rowN (R : List (List Int)) (n : Int) : List Int := R.getD n.toNat []
def chl (R : List (List Int)) (z : Int × List Int) : List (List Int × Int) := (rowN R z.1).mapIdx fun k w => (z.2 ++ [(k : Int)], w)
def lay (R : List (List Int)) (r0 : List Int) : Nat → List (Int × List Int) × List (List Int × Int)
  | 0 => ([], r0.mapIdx fun k w => ([(k : Int)], w))
  | i + 1 => (rnd R (lay R r0 i).1 (lay R r0 i).2, ((rnd R (lay R r0 i).1 (lay R r0 i).2).drop (lay R r0 i).1.length).flatMap (chl R))
theorem rnd1_ext (R : List (List Int)) (F : List (Int × List Int)) (x : List Int × Int) : rnd1 R F x = F ∨ ∃ n, rnd1 R F x = F ++ [(n, x.1)] ∧ objN R x.2 = some n ∧ n ∉ F.map (·.1) := by
  unfold rnd1
  cases h : objN R x.2 with
  | none => exact Or.inl rfl
  | some n =>
    by_cases hm : n ∈ F.map (·.1)
    · exact Or.inl (by simp only [if_pos hm])
    · exact Or.inr ⟨n, by simp only [if_neg hm], rfl, hm⟩
theorem rnd_ext (R : List (List Int)) : ∀ (W : List (List Int × Int)) (F : List (Int × List Int)), ∃ G, rnd R F W = F ++ G ∧ (G.map (·.2)).Sublist (W.map (·.1))
  | [], F => ⟨[], by rw [List.append_nil]; rfl, List.Sublist.refl _⟩
  | x :: W, F => by
    rcases rnd1_ext R F x with h | ⟨n, h, _⟩
    · obtain ⟨G, e, s⟩ := rnd_ext R W F
      exact ⟨G, by show rnd R (rnd1 R F x) W = _; rw [h, e], s.cons _⟩
    · obtain ⟨G, e, s⟩ := rnd_ext R W (F ++ [(n, x.1)])
      exact ⟨(n, x.1) :: G, by show rnd R (rnd1 R F x) W = _; rw [h, e, List.append_assoc]; rfl, s.cons₂ _⟩
structure FInv (R : List (List Int)) (F : List (Int × List Int)) : Prop where
  nd : (F.map (·.1)).Nodup
  ok : ∀ z ∈ F, 0 ≤ z.1 ∧ z.1 < R.length
theorem objN_ok {R : List (List Int)} {w n : Int} (h : objN R w = some n) : w % 2 = 0 ∧ n = w / 2 ∧ 0 ≤ n ∧ n < R.length := by
  unfold objN at h
  split at h
  · rename_i hc
    cases h
    exact ⟨hc.1, rfl, hc.2⟩
  · cases h
theorem FInv.rnd1 {R : List (List Int)} {F : List (Int × List Int)} (f : FInv R F) (x : List Int × Int) : FInv R (rnd1 R F x) := by
  rcases rnd1_ext R F x with h | ⟨n, h, h1, h2⟩
  · rw [h]; exact f
  · rw [h]
    obtain ⟨_, _, h3, h4⟩ := objN_ok h1
    refine ⟨?_, fun z hz => ?_⟩
    · rw [List.map_append]
      exact List.nodup_append.mpr ⟨f.nd, by simp, fun a ha b hb e => by
        have hb : b = n := by simpa using hb
        subst hb e
        exact h2 ha⟩
    · rcases List.mem_append.mp hz with hz | hz
      · exact f.ok z hz
      · rw [List.mem_singleton.mp hz]; exact ⟨h3, h4⟩
theorem FInv.rnd {R : List (List Int)} : ∀ (W : List (List Int × Int)) {F : List (Int × List Int)}, FInv R F → FInv R (rnd R F W)
  | [], _, f => f
  | x :: W, _, f => FInv.rnd W (f.rnd1 x)
theorem FInv.len {R : List (List Int)} {F : List (Int × List Int)} (f : FInv R F) : F.length ≤ R.length := by
  have h := nd_len (F.map (·.1)) ((List.range R.length).map fun i : Nat => (i : Int)) f.nd fun n hn => by
    obtain ⟨z, hz, e⟩ := List.mem_map.mp hn
    have := f.ok z hz
    exact List.mem_map.mpr ⟨n.toNat, List.mem_range.mpr (by omega), by omega⟩
  rw [List.length_map, List.length_map, List.length_range] at h
  exact h
theorem lay_inv (R : List (List Int)) (r0 : List Int) : ∀ i, FInv R (lay R r0 i).1
  | 0 => ⟨List.nodup_nil, fun z hz => by cases hz⟩
  | i + 1 => FInv.rnd _ (lay_inv R r0 i)
theorem lay_G (R : List (List Int)) (r0 : List Int) (i : Nat) : ∃ G, (lay R r0 (i + 1)).1 = (lay R r0 i).1 ++ G ∧ (G.map (·.2)).Sublist ((lay R r0 i).2.map (·.1)) ∧ (lay R r0 (i + 1)).2 = G.flatMap (chl R) := by
  obtain ⟨G, e, s⟩ := rnd_ext R (lay R r0 i).2 (lay R r0 i).1
  refine ⟨G, e, s, ?_⟩
  show ((rnd R (lay R r0 i).1 (lay R r0 i).2).drop (lay R r0 i).1.length).flatMap (chl R) = _
  rw [e, List.drop_left]
theorem chl_path {R : List (List Int)} {z : Int × List Int} {x : List Int × Int} (h : x ∈ chl R z) : ∃ k : Nat, x.1 = z.2 ++ [(k : Int)] ∧ (rowN R z.1)[k]? = some x.2 := by
  unfold chl at h
  obtain ⟨k, hk⟩ := List.getElem?_of_mem h
  rw [List.getElem?_mapIdx] at hk
  obtain ⟨w, hw, e⟩ := Option.map_eq_some_iff.mp hk
  exact ⟨k, by rw [← e], by rw [hw, ← e]⟩
theorem lay_len (R : List (List Int)) (r0 : List Int) : ∀ i, (∀ x ∈ (lay R r0 i).2, x.1.length = i + 1) ∧ ∀ z ∈ (lay R r0 i).1, z.2.length ≤ i
  | 0 => ⟨fun x hx => by
      obtain ⟨k, hk⟩ := List.getElem?_of_mem (show x ∈ r0.mapIdx fun k w => ([(k : Int)], w) from hx)
      rw [List.getElem?_mapIdx] at hk
      obtain ⟨w, hw, e⟩ := Option.map_eq_some_iff.mp hk
      rw [← e]; rfl, fun z hz => by cases hz⟩
  | i + 1 => by
    obtain ⟨h1, h2⟩ := lay_len R r0 i
    obtain ⟨G, e, s, eW⟩ := lay_G R r0 i
    have hG : ∀ z ∈ G, z.2.length = i + 1 := fun z hz => by
      obtain ⟨x, hx, e⟩ := List.mem_map.mp (s.subset (List.mem_map_of_mem hz))
      rw [← e]
      exact h1 x hx
    refine ⟨fun x hx => ?_, fun z hz => ?_⟩
    · rw [eW] at hx
      obtain ⟨z, hz, hx⟩ := List.mem_flatMap.mp hx
      obtain ⟨k, e, _⟩ := chl_path hx
      rw [e, List.length_append, hG z hz]; rfl
    · rw [e] at hz
      rcases List.mem_append.mp hz with hz | hz
      · have := h2 z hz; omega
      · rw [hG z hz]; exact Nat.le_refl _
theorem lay_G2 (R : List (List Int)) (r0 : List Int) (i : Nat) : (lay R r0 (i + 1)).2 = ((lay R r0 (i + 1)).1.filter fun z => decide (z.2.length = i + 1)).flatMap (chl R) := by
  obtain ⟨G, e, s, eW⟩ := lay_G R r0 i
  obtain ⟨h1, h2⟩ := lay_len R r0 i
  rw [eW, e, List.filter_append]
  have hG : ∀ z ∈ G, z.2.length = i + 1 := fun z hz => by
    obtain ⟨x, hx, e⟩ := List.mem_map.mp (s.subset (List.mem_map_of_mem hz))
    rw [← e]
    exact h1 x hx
  rw [List.filter_eq_nil_iff.mpr (fun z hz => by have := h2 z hz; simp; omega), List.nil_append, List.filter_eq_self.mpr (fun z hz => by simpa using hG z hz)]
theorem lt_snoc : ∀ {p q : List Int} (a b : Int), p < q → p.length = q.length → p ++ [a] < q ++ [b]
  | [], [], _, _, h, _ => absurd h (by simp)
  | [], _ :: _, _, _, _, h => by simp at h
  | _ :: _, [], _, _, _, h => by simp at h
  | x :: p, y :: q, a, b, h, hl => by
    rw [List.cons_lt_cons_iff] at h
    rw [List.cons_append, List.cons_append, List.cons_lt_cons_iff]
    rcases h with h | ⟨h, h'⟩
    · exact Or.inl h
    · exact Or.inr ⟨h, lt_snoc a b h' (by simpa using hl)⟩
theorem snoc_lt : ∀ (p : List Int) {a b : Int}, a < b → p ++ [a] < p ++ [b]
  | [], a, b, h => by rw [List.nil_append, List.nil_append, List.cons_lt_cons_iff]; exact Or.inl h
  | x :: p, a, b, h => by
    rw [List.cons_append, List.cons_append, List.cons_lt_cons_iff]
    exact Or.inr ⟨rfl, snoc_lt p h⟩
theorem pw_idx {α : Type} {l : List α} {r : α → α → Prop} (h : ∀ (i j : Nat) (a b : α), i < j → l[i]? = some a → l[j]? = some b → r a b) : l.Pairwise r := by
  rw [List.pairwise_iff_getElem]
  intro i j hi hj hij
  exact h i j _ _ hij (List.getElem?_eq_getElem hi) (List.getElem?_eq_getElem hj)
theorem chl_pw (R : List (List Int)) (z : Int × List Int) : ((chl R z).map (·.1)).Pairwise (· < ·) := by
  refine pw_idx fun i j a b hij ha hb => ?_
  unfold chl at ha hb
  rw [List.getElem?_map, List.getElem?_mapIdx] at ha hb
  obtain ⟨x, hx, rfl⟩ := Option.map_eq_some_iff.mp ha
  obtain ⟨y, hy, rfl⟩ := Option.map_eq_some_iff.mp hb
  obtain ⟨_, _, rfl⟩ := Option.map_eq_some_iff.mp hx
  obtain ⟨_, _, rfl⟩ := Option.map_eq_some_iff.mp hy
  exact snoc_lt _ (by omega)
theorem lay_pw (R : List (List Int)) (r0 : List Int) : ∀ i, ((lay R r0 i).2.map (·.1)).Pairwise (· < ·)
  | 0 => by
    refine pw_idx fun i j a b hij ha hb => ?_
    show a < b
    have ha : ((r0.mapIdx fun k w => ([(k : Int)], w)).map (·.1))[i]? = some a := ha
    have hb : ((r0.mapIdx fun k w => ([(k : Int)], w)).map (·.1))[j]? = some b := hb
    rw [List.getElem?_map, List.getElem?_mapIdx] at ha hb
    obtain ⟨x, hx, rfl⟩ := Option.map_eq_some_iff.mp ha
    obtain ⟨y, hy, rfl⟩ := Option.map_eq_some_iff.mp hb
    obtain ⟨_, _, rfl⟩ := Option.map_eq_some_iff.mp hx
    obtain ⟨_, _, rfl⟩ := Option.map_eq_some_iff.mp hy
    exact snoc_lt [] (by omega)
  | i + 1 => by
    obtain ⟨G, e, s, eW⟩ := lay_G R r0 i
    obtain ⟨h1, _⟩ := lay_len R r0 i
    have hG : ∀ z ∈ G, z.2.length = i + 1 := fun z hz => by
      obtain ⟨x, hx, e⟩ := List.mem_map.mp (s.subset (List.mem_map_of_mem hz))
      rw [← e]
      exact h1 x hx
    have pG := (lay_pw R r0 i).sublist s
    rw [eW]
    clear eW e s
    induction G with
    | nil => exact List.Pairwise.nil
    | cons z G ih =>
      rw [List.map_cons, List.pairwise_cons] at pG
      rw [List.flatMap_cons, List.map_append]
      refine List.pairwise_append.mpr ⟨chl_pw R z, ih (fun y hy => hG y (List.mem_cons_of_mem _ hy)) pG.2, fun a ha b hb => ?_⟩
      obtain ⟨x, hx, rfl⟩ := List.mem_map.mp ha
      obtain ⟨y, hy, rfl⟩ := List.mem_map.mp hb
      obtain ⟨z', hz', hy⟩ := List.mem_flatMap.mp hy
      obtain ⟨k, e1, _⟩ := chl_path hx
      obtain ⟨l, e2, _⟩ := chl_path hy
      rw [e1, e2]
      exact lt_snoc _ _ (pG.1 _ (List.mem_map_of_mem hz')) (by rw [hG z List.mem_cons_self, hG z' (List.mem_cons_of_mem _ hz')])
theorem lay_grow (R : List (List Int)) (r0 : List Int) : ∀ i, (lay R r0 i).2 ≠ [] → i ≤ (lay R r0 i).1.length
  | 0, _ => Nat.zero_le _
  | i + 1, h => by
    obtain ⟨G, e, s, eW⟩ := lay_G R r0 i
    have hG : G ≠ [] := fun z => h (by rw [eW, z]; rfl)
    have hW : (lay R r0 i).2 ≠ [] := fun z => by
      rw [z] at s
      have := s.length_le
      rw [List.length_map] at this
      exact hG (List.length_eq_zero_iff.mp (by simpa using this))
    have := lay_grow R r0 i hW
    have := List.length_pos_iff.mpr hG
    rw [e, List.length_append]
    omega
theorem lay_stop (R : List (List Int)) (r0 : List Int) {i : Nat} (h : (lay R r0 i).2 = []) : (lay R r0 (i + 1)) = ((lay R r0 i).1, []) := by
  show (rnd R (lay R r0 i).1 (lay R r0 i).2, ((rnd R (lay R r0 i).1 (lay R r0 i).2).drop (lay R r0 i).1.length).flatMap (chl R)) = _
  rw [h]
  show ((lay R r0 i).1, ((lay R r0 i).1.drop (lay R r0 i).1.length).flatMap (chl R)) = _
  rw [List.drop_length]
  rfl
theorem lay_same (R : List (List Int)) (r0 : List Int) {i : Nat} (h : (lay R r0 i).2 = []) : ∀ k, (lay R r0 (i + k)) = ((lay R r0 i).1, [])
  | 0 => by rw [← h]; rfl
  | k + 1 => by
    have ih := lay_same R r0 h k
    have := lay_stop R r0 (i := i + k) (by rw [ih])
    rw [ih] at this
    exact this
theorem lay_end (R : List (List Int)) (r0 : List Int) : (lay R r0 (R.length + 1)).2 = [] := Classical.byContradiction fun h => by
  have h1 := lay_grow R r0 _ h
  have h2 := (lay_inv R r0 (R.length + 1)).len
  omega
def best (R : List (List Int)) (r0 : List Int) : List (Int × List Int) := (lay R r0 (R.length + 1)).1
theorem best_of (R : List (List Int)) (r0 : List Int) {i : Nat} (h : (lay R r0 i).2 = []) : (lay R r0 i).1 = best R r0 := by
  unfold best
  rcases Nat.le_total i (R.length + 1) with hl | hl
  · have := lay_same R r0 h (R.length + 1 - i)
    rw [show i + (R.length + 1 - i) = R.length + 1 by omega] at this
    rw [this]
  · have := lay_same R r0 (lay_end R r0) (i - (R.length + 1))
    rw [show R.length + 1 + (i - (R.length + 1)) = i by omega] at this
    rw [this]
/-! ### what is found is what is reached -/
theorem rnd_mono (R : List (List Int)) {W : List (List Int × Int)} {F : List (Int × List Int)} {z : Int × List Int} (h : z ∈ F) : z ∈ rnd R F W := by
  obtain ⟨G, e, _⟩ := rnd_ext R W F
  rw [e]; exact List.mem_append_left _ h
theorem rnd_mem (R : List (List Int)) : ∀ {W : List (List Int × Int)} {F : List (Int × List Int)} {x : List Int × Int} {n : Int}, x ∈ W → objN R x.2 = some n → n ∈ (rnd R F W).map (·.1)
  | [], _, _, _, h, _ => by cases h
  | y :: W, F, x, n, h, hn => by
    rcases List.mem_cons.mp h with e | h
    · subst e
      have : n ∈ (rnd1 R F x).map (·.1) := by
        unfold rnd1
        rw [hn]
        by_cases hm : n ∈ F.map (·.1)
        · simpa only [if_pos hm] using hm
        · simp only [if_neg hm, List.map_append, List.mem_append]
          exact Or.inr (by simp)
      obtain ⟨z, hz, e⟩ := List.mem_map.mp this
      exact List.mem_map.mpr ⟨z, rnd_mono R (W := W) (F := rnd1 R F x) hz, e⟩
    · exact rnd_mem R (F := rnd1 R F y) h hn
theorem rnd_from (R : List (List Int)) : ∀ (W : List (List Int × Int)) {F : List (Int × List Int)} {z : Int × List Int}, z ∈ rnd R F W → z ∈ F ∨ ∃ x ∈ W, objN R x.2 = some z.1
  | [], _, _, h => Or.inl h
  | y :: W, F, z, h => by
    rcases rnd_from R W (F := rnd1 R F y) h with h | ⟨x, hx, e⟩
    · rcases rnd1_ext R F y with e | ⟨n, e, h1, _⟩
      · rw [e] at h; exact Or.inl h
      · rw [e] at h
        rcases List.mem_append.mp h with h | h
        · exact Or.inl h
        · rw [List.mem_singleton.mp h]
          exact Or.inr ⟨y, List.mem_cons_self, h1⟩
    · exact Or.inr ⟨x, List.mem_cons_of_mem _ hx, e⟩
section
variable {O : List Ob} {R : List (List Int)} {r0 : List Int}
theorem objN_live (hO : O.map rowOf = R) (ix : Idx O) (lv : ∀ o ∈ O, o.live = true) {w n : Int} : objN R w = some n ↔ w % 2 = 0 ∧ Live O (w / 2) ∧ n = w / 2 := by
  have hl : R.length = O.length := by rw [← hO, List.length_map]
  rw [ix.live lv]
  unfold objN
  rw [hl]
  split
  · rename_i h
    constructor
    · intro e; cases e; exact ⟨h.1, h.2, rfl⟩
    · rintro ⟨_, _, e⟩; rw [e]
  · rename_i h
    constructor
    · intro e; cases e
    · rintro ⟨h1, h2, _⟩; exact absurd ⟨h1, h2⟩ h
theorem row_at (hO : O.map rowOf = R) {i : Nat} {o : Ob} (h : O[i]? = some o) : rowN R (i : Int) = rowOf o := by
  unfold rowN
  rw [Int.toNat_natCast, ← hO, List.getD_eq_getElem?_getD, List.getElem?_map, h]
  rfl
theorem lay_reach (hO : O.map rowOf = R) (ix : Idx O) (lv : ∀ o ∈ O, o.live = true) : ∀ i, (∀ z ∈ (lay R r0 i).1, Reach O r0 z.1) ∧ ∀ x ∈ (lay R r0 i).2, x.2 % 2 = 0 → Live O (x.2 / 2) → Reach O r0 (x.2 / 2)
  | 0 => ⟨fun z hz => (by cases hz), fun x hx h1 h2 => by
      obtain ⟨k, hk⟩ := List.getElem?_of_mem (show x ∈ r0.mapIdx fun k w => ([(k : Int)], w) from hx)
      rw [List.getElem?_mapIdx] at hk
      obtain ⟨w, hw, e⟩ := Option.map_eq_some_iff.mp hk
      rw [← e] at h1 h2 ⊢
      exact .root (List.mem_of_getElem? hw) h1 h2⟩
  | i + 1 => by
    obtain ⟨h1, h2⟩ := lay_reach hO ix lv i
    have hF : ∀ z ∈ (lay R r0 (i + 1)).1, Reach O r0 z.1 := fun z hz => by
      rcases rnd_from R _ hz with h | ⟨x, hx, e⟩
      · exact h1 z h
      · obtain ⟨q1, q2, q3⟩ := (objN_live hO ix lv).mp e
        rw [q3]; exact h2 x hx q1 q2
    refine ⟨hF, fun x hx e1 e2 => ?_⟩
    obtain ⟨G, e, s, eW⟩ := lay_G R r0 i
    rw [eW] at hx
    obtain ⟨z, hz, hx⟩ := List.mem_flatMap.mp hx
    obtain ⟨k, _, hk⟩ := chl_path hx
    have hr := hF z (by rw [e]; exact List.mem_append_right _ hz)
    obtain ⟨j, o, ho, hlo, hno⟩ := hr.live
    have hj := ix j o ho
    have hzj : z.1 = (j : Int) := by rw [← hno, hj]
    rw [hzj, row_at hO ho] at hk
    exact .step hr ho hlo hno (List.mem_of_getElem? hk) e1 e2
theorem lay_closed (R : List (List Int)) (r0 : List Int) : ∀ i w n, (w ∈ r0 ∨ ∃ z ∈ (lay R r0 i).1, w ∈ rowN R z.1) → objN R w = some n → n ∈ (lay R r0 i).1.map (·.1) ∨ ∃ x ∈ (lay R r0 i).2, x.2 = w
  | 0, w, n, h, hn => by
    rcases h with h | ⟨z, hz, _⟩
    · obtain ⟨k, hk⟩ := List.getElem?_of_mem h
      exact Or.inr ⟨([(k : Int)], w), List.mem_of_getElem? (i := k) (by show (r0.mapIdx fun k w => ([(k : Int)], w))[k]? = _; rw [List.getElem?_mapIdx, hk]; rfl), rfl⟩
    · cases hz
  | i + 1, w, n, h, hn => by
    obtain ⟨G, e, s, eW⟩ := lay_G R r0 i
    have old : (w ∈ r0 ∨ ∃ z ∈ (lay R r0 i).1, w ∈ rowN R z.1) → n ∈ (lay R r0 (i + 1)).1.map (·.1) := fun h => by
      rcases lay_closed R r0 i w n h hn with h | ⟨x, hx, ex⟩
      · obtain ⟨z, hz, ez⟩ := List.mem_map.mp h
        exact List.mem_map.mpr ⟨z, rnd_mono R hz, ez⟩
      · exact rnd_mem R hx (by rw [ex]; exact hn)
    rcases h with h | ⟨z, hz, hw⟩
    · exact Or.inl (old (Or.inl h))
    · rw [e] at hz
      rcases List.mem_append.mp hz with hz | hz
      · exact Or.inl (old (Or.inr ⟨z, hz, hw⟩))
      · obtain ⟨k, hk⟩ := List.getElem?_of_mem hw
        refine Or.inr ⟨(z.2 ++ [(k : Int)], w), ?_, rfl⟩
        rw [eW]
        refine List.mem_flatMap.mpr ⟨z, hz, List.mem_of_getElem? (i := k) ?_⟩
        unfold chl
        rw [List.getElem?_mapIdx, hk]; rfl
theorem best_reach (hO : O.map rowOf = R) (ix : Idx O) (lv : ∀ o ∈ O, o.live = true) (n : Int) : n ∈ (best R r0).map (·.1) ↔ Reach O r0 n := by
  have cl : ∀ w n, (w ∈ r0 ∨ ∃ z ∈ best R r0, w ∈ rowN R z.1) → objN R w = some n → n ∈ (best R r0).map (·.1) := fun w n h hn => by
    rcases lay_closed R r0 (R.length + 1) w n h hn with h | ⟨x, hx, _⟩
    · exact h
    · rw [lay_end] at hx; cases hx
  constructor
  · intro h
    obtain ⟨z, hz, rfl⟩ := List.mem_map.mp h
    exact (lay_reach hO ix lv (R.length + 1)).1 z hz
  · intro h
    induction h with
    | root h1 h2 h3 => exact cl _ _ (Or.inl h1) ((objN_live hO ix lv).mpr ⟨h2, h3, rfl⟩)
    | step _ h1 h2 h3 h4 h5 h6 ih =>
      obtain ⟨z, hz, e⟩ := List.mem_map.mp ih
      refine cl _ _ (Or.inr ⟨z, hz, ?_⟩) ((objN_live hO ix lv).mpr ⟨h5, h6, rfl⟩)
      have hj := ix _ _ h1
      rw [e, ← h3, hj, row_at hO h1]
      exact h4
end

end LX
namespace LX
open PySem PySem.Spec PyProof.Rows L2 NdefX
set_option hygiene false in
local macro_rules | `(tactic| k_memK) => `(tactic| first | exact W.na_Store_room | exact W.na_Store_entries | exact W.na_Store_words | exact W.na_Store__places | exact W.na_Store__least | exact W.na_Space_store | exact W.na_Space_pressure | exact W.na_Space_always | exact W.na_Space_allocations | exact W.na_Space_collections | exact W.na_Space__roots | exact W.na_Space__held | exact W.na_Space__saved)
set_option hygiene false in
local macro_rules | `(tactic| k_ownIn) => `(tactic| first | exact W.C_Store | exact W.C_Space)
local macro_rules | `(tactic| none_booked) => `(tactic| first | assumption | (refine Fr.g0 (by assumption) ?_; none_booked))
local macro_rules | `(tactic| one_sign) => `(tactic| repeat (first
  | refine Stp.h ?_
  | ((with_reducible refine' z_fld1 ?k0 ?k1 ?k2 ?k3 ?_); (case k0 => none_booked); (case k1 => k_ownIn); (case k2 => k_memK); (case k3 => rfl))
  | ((with_reducible refine' z_meth1 ?k0 ?k1 ?_); (case k0 => none_booked); (case k1 => rfl))
  | ((with_reducible refine' z_bmL ?k0 ?_); (case k0 => none_booked))
  | ((with_reducible refine' z_lenL ?k0 ?_); (case k0 => none_booked))
  | ((with_reducible refine' z_lenT ?k0 ?_); (case k0 => none_booked))
  | ((with_reducible refine' z_lenD ?k0 ?_); (case k0 => none_booked))
  | ((with_reducible refine' z_truL ?k0 ?_); (case k0 => none_booked))
  | ((with_reducible refine' z_truD ?k0 ?_); (case k0 => none_booked))
  | ((with_reducible refine' z_truT ?k0 ?_); (case k0 => none_booked))
  | ((with_reducible refine' z_inDIP ?k0 ?_); (case k0 => none_booked))
  | ((with_reducible refine' z_inDIN ?k0 ?_); (case k0 => none_booked))
  | ((with_reducible refine' z_inDfP ?k0 ?_); (case k0 => none_booked))
  | ((with_reducible refine' z_inDfN ?k0 ?_); (case k0 => none_booked))
  | ((with_reducible refine' z_iList1 ?k0 ?_); (case k0 => none_booked))
  | ((with_reducible refine' z_isi0 ?k0 ?k1 ?k2 ?_); (case k0 => exact (ClsV.ty _)); (case k1 => exact (TyX.base (TyOf.lst (by none_booked)))); (case k2 => first | exact kt_list_int | exact kt_list_bool | exact kt_list_str | exact kt_list_list | exact kt_list_tuple | exact kt_list_dict))
  | ((with_reducible refine' z_rI ?k0 ?_); (case k0 => first | exact (by decide : (0 : Int) < _) | exact ⟨by decide, by decide⟩ | exact ⟨by decide, by decide, by decide⟩ | (show (0 : Int) < _; omega)))
  | ((with_reducible refine' z_mulI ?k0 ?_); (case k0 => first | exact Or.inr ⟨by decide, by decide⟩ | exact Or.inl ⟨by decide, by decide⟩ | exact Or.inl ⟨by omega, by omega⟩ | exact Or.inr ⟨by omega, by omega⟩))))
local macro_rules | `(tactic| leaf_len) => `(tactic| (simp only [wipe, List.map_cons, List.map_nil, List.set_cons_zero, List.set_cons_succ]; one_sign; refine z_ok rfl ?_; one_sign))
section
variable {P : Program} {w : World} {K : PySem.W.Frag} {mg : Str → Option Value} {base : Heap}
def optV : Option Int → V
  | none => .non
  | some w => .int w
theorem nextRow_at {O : List Ob} {R : List (List Int)} (hO : O.map rowOf = R) {x : Int} {j : Nat} {o : Ob} (ho : O[j]? = some o) (h0 : x % 2 = 0) (h : x / 2 = (j : Int)) : nextRow R x = some (rowOf o) := by
  unfold nextRow
  rw [if_pos ⟨h0, by omega⟩, h, Int.toNat_natCast, ← hO, List.getElem?_map, ho]; rfl
theorem nextRow_no {O : List Ob} {R : List (List Int)} (hO : O.map rowOf = R) (ix : Idx O) (lv : ∀ o ∈ O, o.live = true) {x : Int} (h : ¬ (x % 2 = 0 ∧ Live O (x / 2))) : nextRow R x = none := by
  unfold nextRow
  split
  · rename_i hc
    refine List.getElem?_eq_none_iff.mpr ?_
    rw [← hO, List.length_map]
    refine Classical.byContradiction fun z => h ⟨hc.1, (ix.live lv _).mpr ⟨by omega, by omega⟩⟩
  · rfl
def sp_wordat (C CS PT : Addr) : Sp := fun vs H Q _ => ∃ sp pa X O rs hs R p, vs = [.ref sp, .ref pa] ∧ Spc C CS PT H sp X O rs hs ∧ O.map rowOf = R ∧ Idx O ∧ H pa = some (.tup (p.map V.int)) ∧ p.length ≤ 1000 ∧
  ∀ H', Fr [] H H' → Q (optV (walkW R (0 :: (rs ++ hs)) p)) H'
theorem ok_word_at (W : WT P K mg base) : FnOk P w K mg base CX0 4 W.f_word_at W.fd_word_at ["space", "path"] (sp_wordat W.c_Store W.c_Space W.PT_Store_close_up) := by
  refine W.F_word_at.ok sc_word_at (fun vs H Q E h => by obtain ⟨sp, pa, X, O, rs, hs, R, p, rfl, S0, hO, ix, hpa, hp, k⟩ := h; rfl) (fun cdv A outer s H vs Q E hr h => ?_)
  obtain ⟨sp, pa, X, O, rs, hs, R, p, rfl, S0, hO, ix, hpa, hp, k⟩ := h
  have hu1 := hu_of hr
  have hu64 := hu64_of hr
  refine ⟨_, (pss_cons (ps_set (i := 2) sc_word_at.nd rfl (by first | exact Or.inl rfl | exact Or.inr rfl) (pe_meth0 (pv 0) W.C_Space W.m_Space_all_roots (ok_Space_all_roots W) (hr.mono (by decide)) W.b_Space_all_roots .nil pass0 ))
      (pss_cons (ps_set (i := 3) sc_word_at.nd rfl (by first | exact Or.inl rfl | exact Or.inr rfl) pe_non)
      (pss_cons (ps_for PassesOwn.never rfl (pi_range1 (by rfl) W.n_range (pa_cons (pe_callB call_lenU (by rfl) W.n_len bb_len (pa_cons (pv 1) pa_nil)) pa_nil)) (pg_name (i := 4) sc_word_at.nd rfl (by first | exact Or.inl rfl | exact Or.inr rfl)) (Evl.pss_cut (ps_if (pt_cmpR op_gtU (pv 4) pe_int (by first | exact nomark _ | rfl)) (pss_cons (ps_set (i := 5) sc_word_at.nd rfl (by first | exact Or.inl rfl | exact Or.inr rfl) (pe_call (ok_object_of W) (hr.mono (by decide)) rfl W.g_object_of W.F_object_of.kp W.b_object_of .nil pass0 (pa_cons (pv 0) (pa_cons (pv 3) pa_nil))))
      (pss_cons (ps_if (pt_cmpR op_isU (pv 5) pe_non (by first | exact nomark _ | rfl)) (pss_one (ps_ret pe_non)) pss_nil)
      (pss_one (ps_set (i := 2) sc_word_at.nd rfl (by first | exact Or.inl rfl | exact Or.inr rfl) (pe_call (ok_row_of W) (hr.mono (by decide)) rfl W.g_row_of W.F_row_of.kp W.b_row_of .nil pass0 (pa_cons (pv 0) (pa_cons (pv 5) pa_nil))))))) pss_nil)
      (pss_cons (ps_if (pt_not (pt_chain op_leU op_ltU pe_int (pe_ix (ix_U hu1) (pv 1) (pv 4) (fun _ _ => rfl)) (pe_callB call_lenU (by rfl) W.n_len bb_len (pa_cons (pv 2) pa_nil)))) (pss_one (ps_ret pe_non)) pss_nil)
      (pss_one (ps_set (i := 3) sc_word_at.nd rfl (by first | exact Or.inl rfl | exact Or.inr rfl) (pe_ix (ix_U hu1) (pv 2) (pe_ix (ix_U hu1) (pv 1) (pv 4) (fun _ _ => rfl)) (fun _ _ => rfl)))))))
      (pss_one (ps_ret (pv 3)))))), ?_⟩
  refine z_start (σ := [some _, some _, none, none, none, none]) rfl ?_
  one_sign
  obtain ⟨dxs, st, dx, wl, pl, pr, rt, hd, al, co, least, kvs, rfl, ss⟩ := S0
  have hsp := ss.S.sp
  one_sign
  refine ⟨sp, dxs, st, pr, rt, hd, al, co, rs, hs, rfl, ss.S, by have := ss.rl; omega, by have := ss.hl; omega, fun ra H1 hra hra0 f1 => ?_⟩
  one_sign
  rw [List.length_map]
  generalize hr0 : 0 :: (rs ++ hs) = r0 at hra k
  refine z_rng1 p.length rfl (by omega) ?_
  refine for_range (lo := 0) (n := p.length) (fun i σ H' => ∃ (ra : Addr) (row : List Int) (sv : Option Int) (v4 v5 : Option V), σ = [some (.ref sp), some (.ref pa), some (.ref ra), some (optV sv), v4, v5] ∧ walkS R r0 (p.take i) = some sv ∧ H' ra = some (.lst (row.map V.int)) ∧ (i = 0 → row = r0 ∧ sv = none) ∧ (0 < i → ∃ w, sv = some w) ∧ row.length ≤ 1000 ∧ Fr [] H H')
    ⟨ra, r0, none, _, _, rfl, rfl, hra, fun _ => ⟨rfl, rfl⟩, fun h => by omega, by rw [← hr0, List.length_cons, List.length_append]; have := ss.rl; have := ss.hl; omega, f1⟩ (fun i σ H2 hi hI => ?_) (fun σ H2 hI => ?_)
  · obtain ⟨ra, row, sv, v4, v5, rfl, hw, hra2, hi0, hi1, hrl, f2⟩ := hI
    obtain ⟨kk, hk⟩ : ∃ kk, p[i]? = some kk := ⟨_, List.getElem?_eq_getElem hi⟩
    have hnext := walkS_take (R := R) (r0 := r0) hk
    rw [hw] at hnext
    have ss2 := ss.keep f2
    have hpa2 := f2.g0 hpa
    one_sign
    refine Evl.q_cut (M := fun σ H' => ∃ (ra : Addr) (row : List Int) (v5 : Option V), σ = [some (.ref sp), some (.ref pa), some (.ref ra), some (optV sv), some (.int (0 + (i : Int))), v5] ∧ H' ra = some (.lst (row.map V.int)) ∧ (∀ k, wst R r0 (some sv) k = (stepW row k).map some) ∧ row.length ≤ 1000 ∧ Fr [] H H') ?_ ?_
    · one_sign
      refine iteD (fun h => ?_) (fun h => ?_)
      · have h : (0 : Int) < 0 + (i : Int) := h
        obtain ⟨x, rfl⟩ := hi1 (by omega)
        one_sign
        refine ⟨sp, dxs, st, pr, rt, hd, al, co, rs, hs, dx, wl, pl, _, _, least, O, kvs, x, rfl, ss2.S, ss2.T, ss2.G, fun he hlv => ?_, fun hno => ?_⟩
        · one_sign
          obtain ⟨j, o, ho, hlo, hno⟩ := hlv
          rw [← hno]
          refine ⟨sp, dxs, st, pr, rt, hd, al, co, rs, hs, dx, wl, pl, _, _, least, O, kvs, j, o, rfl, ss2.S, ss2.T, ss2.G, ho, hlo, Nat.le_trans (ss.sz o (List.mem_of_getElem? ho)) (by decide), fun q H3 hq q3 f3 => ?_⟩
          one_sign
          have hj := ix j o ho
          refine ⟨q, rowOf o, _, rfl, q3, fun k => ?_, by show o.sl.length + 1 ≤ 1000; have := ss.sz o (List.mem_of_getElem? ho); omega, f2.trans f3⟩
          show ((nextRow R x).bind fun row => stepW row k).map some = _
          rw [nextRow_at hO ho he (by rw [← hno, hj])]
          rfl
        · one_sign
          have e : walkW R r0 p = none := walkS_dead (i := i + 1) (by
            rw [hnext]
            show ((nextRow R x).bind fun row => stepW row kk).map some = _
            rw [nextRow_no hO ix ss.lv hno]
            rfl)
          rw [e] at k
          exact k H2 f2
      · have h : ¬ (0 : Int) < 0 + (i : Int) := h
        obtain ⟨rfl, rfl⟩ := hi0 (by omega)
        one_sign
        exact ⟨ra, row, _, rfl, hra2, fun k => rfl, hrl, f2⟩
    rintro σ H3 ⟨ra, row, v5, rfl, hra3, hst, hrl, f3⟩
    rw [hst] at hnext
    have hpa3 := f3.g0 hpa
    have none : ¬ (0 ≤ kk ∧ kk < row.length) → Q V.non H3 := fun h => by
      have e : walkW R r0 p = .none := walkS_dead (i := i + 1) (by rw [hnext, stepW_out h]; rfl)
      rw [e] at k
      exact k H3 f3
    one_sign
    refine z_ixT hpa3 (by rw [Int.zero_add]; exact atI_nat (int_at hk)) ?_
    one_sign
    refine iteD (fun h1 => ?_) (fun h1 => ?_)
    · have h1 : 0 ≤ kk := h1
      one_sign
      rw [List.length_map]
      refine iteND (fun h2 => ?_) (fun h2 => ?_)
      · one_sign
        exact none fun z => h2 z.2
      · have h2 : kk < (row.length : Int) := h2
        obtain ⟨x, hx1, hx2⟩ := stepW_in h1 h2
        one_sign
        refine z_ixT hpa3 (by rw [Int.zero_add]; exact atI_nat (int_at hk)) ?_
        one_sign
        refine z_ixL hra3 (by rw [show kk = (kk.toNat : Int) by omega]; exact atI_nat (int_at hx2)) ?_
        one_sign
        exact ⟨ra, row, some x, _, _, rfl, by rw [hnext, hx1]; rfl, hra3, fun h => by omega, fun _ => ⟨x, rfl⟩, hrl, f3⟩
    · one_sign
      exact none fun z => h1 z.1
  · obtain ⟨ra, row, sv, v4, v5, rfl, hw, hra2, hi0, hi1, hrl, f2⟩ := hI
    rw [List.take_length] at hw
    one_sign
    have e : walkW R r0 p = sv := by unfold walkW; rw [hw]; rfl
    rw [← e]
    exact k H2 f2
end

end LX
namespace LX
open PySem PySem.Spec PyProof.Rows L2 NdefX
set_option hygiene false in
local macro_rules | `(tactic| k_memK) => `(tactic| first | exact W.na_Store_room | exact W.na_Store_entries | exact W.na_Store_words | exact W.na_Store__places | exact W.na_Store__least | exact W.na_Space_store | exact W.na_Space_pressure | exact W.na_Space_always | exact W.na_Space_allocations | exact W.na_Space_collections | exact W.na_Space__roots | exact W.na_Space__held | exact W.na_Space__saved)
set_option hygiene false in
local macro_rules | `(tactic| k_ownIn) => `(tactic| first | exact W.C_Store | exact W.C_Space)
local macro_rules | `(tactic| none_booked) => `(tactic| first | assumption | (refine Fr.g0 (by assumption) ?_; none_booked))
local macro_rules | `(tactic| one_sign) => `(tactic| repeat (first
  | refine Stp.h ?_
  | ((with_reducible refine' z_fld1 ?k0 ?k1 ?k2 ?k3 ?_); (case k0 => none_booked); (case k1 => k_ownIn); (case k2 => k_memK); (case k3 => rfl))
  | ((with_reducible refine' z_meth1 ?k0 ?k1 ?_); (case k0 => none_booked); (case k1 => rfl))
  | ((with_reducible refine' z_bmL ?k0 ?_); (case k0 => none_booked))
  | ((with_reducible refine' z_lenL ?k0 ?_); (case k0 => none_booked))
  | ((with_reducible refine' z_lenT ?k0 ?_); (case k0 => none_booked))
  | ((with_reducible refine' z_lenD ?k0 ?_); (case k0 => none_booked))
  | ((with_reducible refine' z_truL ?k0 ?_); (case k0 => none_booked))
  | ((with_reducible refine' z_truD ?k0 ?_); (case k0 => none_booked))
  | ((with_reducible refine' z_truT ?k0 ?_); (case k0 => none_booked))
  | ((with_reducible refine' z_inDIP ?k0 ?_); (case k0 => none_booked))
  | ((with_reducible refine' z_inDIN ?k0 ?_); (case k0 => none_booked))
  | ((with_reducible refine' z_inDfP ?k0 ?_); (case k0 => none_booked))
  | ((with_reducible refine' z_inDfN ?k0 ?_); (case k0 => none_booked))
  | ((with_reducible refine' z_iList1 ?k0 ?_); (case k0 => none_booked))
  | ((with_reducible refine' z_isi0 ?k0 ?k1 ?k2 ?_); (case k0 => exact (ClsV.ty _)); (case k1 => exact (TyX.base (TyOf.lst (by none_booked)))); (case k2 => first | exact kt_list_int | exact kt_list_bool | exact kt_list_str | exact kt_list_list | exact kt_list_tuple | exact kt_list_dict))
  | ((with_reducible refine' z_rI ?k0 ?_); (case k0 => first | exact (by decide : (0 : Int) < _) | exact ⟨by decide, by decide⟩ | exact ⟨by decide, by decide, by decide⟩ | (show (0 : Int) < _; omega)))
  | ((with_reducible refine' z_mulI ?k0 ?_); (case k0 => first | exact Or.inr ⟨by decide, by decide⟩ | exact Or.inl ⟨by decide, by decide⟩ | exact Or.inl ⟨by omega, by omega⟩ | exact Or.inr ⟨by omega, by omega⟩))))
local macro_rules | `(tactic| leaf_len) => `(tactic| (simp only [wipe, List.map_cons, List.map_nil, List.set_cons_zero, List.set_cons_succ]; one_sign; refine z_ok rfl ?_; one_sign))
/-- tuples stay -/
def TP (H H' : Hp) : Prop := ∀ a xs, H a = some (.tup xs) → H' a = some (.tup xs)
theorem TP.trans {H H1 H2 : Hp} (f : TP H H1) (g : TP H1 H2) : TP H H2 := fun a xs e => g a xs (f a xs e)
theorem Fr.tp {H H' : Hp} (f : Fr [] H H') : TP H H' := fun _ _ e => f.g0 e
theorem Fr.tp1 {H H' : Hp} {q : Addr} {o : HO} (f : Fr [q] H H') (h : H q = some o) (hn : ∀ xs, o ≠ .tup xs) : TP H H' := fun a xs e => f.g e (nin (ne_of e h (fun z => hn xs z.symm)))
abbrev Wti : Type := Addr × Addr × List Int × Int
def wtP (W : List Wti) : List (List Int × Int) := W.map fun x => (x.2.2.1, x.2.2.2)
def wtL (W : List Wti) : List V := W.map fun x => V.ref x.1
def WtI (H : Hp) (W : List Wti) : Prop := ∀ x ∈ W, H x.1 = some (.tup [.ref x.2.1, .int x.2.2.2]) ∧ H x.2.1 = some (.tup (x.2.2.1.map V.int))
theorem WtI.mono {H H' : Hp} {W : List Wti} (h : WtI H W) (t : TP H H') : WtI H' W := fun x hx => ⟨t _ _ (h x hx).1, t _ _ (h x hx).2⟩
theorem WtI.app {H : Hp} {W W' : List Wti} (h : WtI H W) (h' : WtI H W') : WtI H (W ++ W') := fun x hx => (List.mem_append.mp hx).elim (h x) (h' x)
abbrev Fdi : Type := Int × Addr × List Int
def fdP (F : List Fdi) : List (Int × List Int) := F.map fun x => (x.1, x.2.2)
def fdK (F : List Fdi) : List (Key × V) := F.map fun x => (.inl x.1, .ref x.2.1)
def FdI (H : Hp) (F : List Fdi) : Prop := ∀ x ∈ F, H x.2.1 = some (.tup (x.2.2.map V.int))
theorem FdI.mono {H H' : Hp} {F : List Fdi} (h : FdI H F) (t : TP H H') : FdI H' F := fun x hx => t _ _ (h x hx)
theorem fdP_fst (F : List Fdi) : (fdP F).map (·.1) = F.map (·.1) := by unfold fdP; rw [List.map_map]; rfl
theorem fdK_fst (F : List Fdi) : (fdK F).map (·.1) = (F.map (·.1)).map Sum.inl := by unfold fdK; rw [List.map_map, List.map_map]; rfl
theorem fdK_some (F : List Fdi) (n : Int) : (valV (fdK F) (.inl n)).isSome = decide (n ∈ F.map (·.1)) := by
  by_cases h : n ∈ F.map (·.1)
  · rw [decide_eq_true h]
    have : (Sum.inl n : Key) ∈ (fdK F).map (·.1) := by rw [fdK_fst]; exact List.mem_map.mpr ⟨n, h, rfl⟩
    obtain ⟨v, hv⟩ := mem_val this
    rw [hv]; rfl
  · rw [decide_eq_false h]
    cases e : valV (fdK F) (.inl n) with
    | none => rfl
    | some v =>
      have : (Sum.inl n : Key) ∈ (fdK F).map (·.1) := List.mem_map.mpr ⟨_, val_mem e, rfl⟩
      rw [fdK_fst] at this
      obtain ⟨m, hm, e⟩ := List.mem_map.mp this
      cases e
      exact absurd hm h
theorem inl_ndL {l : List Int} (h : l.Nodup) : (l.map (Sum.inl : Int → Key)).Nodup := List.Pairwise.map _ (fun a b hab e => hab (Sum.inl.inj e)) h
theorem fdK_val {F : List Fdi} (nd : (F.map (·.1)).Nodup) {x : Fdi} (h : x ∈ F) : valV (fdK F) (.inl x.1) = some (.ref x.2.1) :=
  mem_valV (by rw [fdK_fst]; exact inl_ndL nd) (List.mem_map.mpr ⟨x, h, rfl⟩)
theorem fdK_put {F : List Fdi} {n : Int} {a : Addr} {p : List Int} (h : n ∉ F.map (·.1)) : putK (fdK F) (.inl n) (.ref a) = fdK (F ++ [(n, a, p)]) := by
  rw [putK_new _ (by
    have := fdK_some F n
    rw [decide_eq_false h] at this
    exact Option.isNone_iff_eq_none.mp (by cases e : valV (fdK F) (.inl n) with
      | none => rfl
      | some v => rw [e] at this; cases this))]
  unfold fdK
  rw [List.map_append]
  rfl
theorem flat_le {R : List (List Int)} (h : ∀ r ∈ R, r.length ≤ 20) : ∀ {G : List (Int × List Int)}, (G.flatMap (chl R)).length ≤ 20 * G.length
  | [] => Nat.zero_le _
  | z :: G => by
    have ih := flat_le h (G := G)
    have : (chl R z).length ≤ 20 := by
      unfold chl rowN
      rw [List.length_mapIdx, List.getD_eq_getElem?_getD]
      cases e : R[z.1.toNat]? with
      | none => exact Nat.zero_le _
      | some r => exact h r (List.mem_of_getElem? e)
    rw [List.flatMap_cons, List.length_append, List.length_cons]
    omega
section
variable {P : Program} {w : World} {K : PySem.W.Frag} {mg : Str → Option Value} {base : Heap}
def sp_paths (C CS PT : Addr) : Sp := fun vs H Q _ => ∃ sp X O rs hs R, vs = [.ref sp] ∧ Spc C CS PT H sp X O rs hs ∧ O.map rowOf = R ∧ Idx O ∧
  ∀ D F H', H D = none → H' D = some (.dK (fdK F)) → FdI H' F → fdP F = best R (0 :: (rs ++ hs)) → Fr [] H H' → Q (.ref D) H'
theorem ok_paths (W : WT P K mg base) : FnOk P w K mg base CX0 4 W.f_paths W.fd_paths ["space"] (sp_paths W.c_Store W.c_Space W.PT_Store_close_up) := by
  refine W.F_paths.ok sc_paths (fun vs H Q E h => by obtain ⟨sp, X, O, rs, hs, R, rfl, S0, hO, ix, k⟩ := h; rfl) (fun cdv A outer s H vs Q E hr h => ?_)
  obtain ⟨sp, X, O, rs, hs, R, rfl, S0, hO, ix, k⟩ := h
  have hu1 := hu_of hr
  have hu64 := hu64_of hr
  refine ⟨_, (pss_cons (ps_set (i := 1) sc_paths.nd rfl (by first | exact Or.inl rfl | exact Or.inr rfl) pe_dnewK)
      (pss_cons (ps_set (i := 2) sc_paths.nd rfl (by first | exact Or.inl rfl | exact Or.inr rfl) (pe_meth0 (pv 0) W.C_Space W.m_Space_all_roots (ok_Space_all_roots W) (hr.mono (by decide)) W.b_Space_all_roots .nil pass0 ))
      (pss_cons (ps_setLc (i := 3) (own := [("k", 4)]) (g := gName 4) (tt := tYes) rfl sc_paths.nd rfl rfl (sw_true rfl rfl rfl (by decide +kernel)) (pi_range1 (by rfl) W.n_range (pa_cons (pe_callB call_lenU (by rfl) W.n_len bb_len (pa_cons (pv 2) pa_nil)) pa_nil)) (blkOk_by (N := N_paths) (sc := defScope s_paths) (by decide +kernel)) (fun _ _ _ _ _ => (pg_name (i := 4) sc_paths.nd rfl (by first | exact Or.inl rfl | exact Or.inr rfl))) (fun _ _ _ _ _ => pts_nil) (fun _ _ _ _ _ => (pe_tup (pa_cons (pe_tup (pa_cons (pv 4) pa_nil)) (pa_cons (pe_ix (ix_UK (K := K) rfl (by exact hu1)) (pv 2) (pv 4) (fun _ _ => rfl)) pa_nil)))))
      (pss_cons (ps_while PassesOwn.never (pt_truth (pv 3) (by intro _; rfl)) (pss_cons (ps_set (i := 5) sc_paths.nd rfl (by first | exact Or.inl rfl | exact Or.inr rfl) (pe_lst pa_nil))
      (pss_cons (ps_for PassesOwn.never rfl (pi_list (pv 3)) (pg_tup rfl (pgs_cons (pg_name (i := 6) sc_paths.nd rfl (by first | exact Or.inl rfl | exact Or.inr rfl)) (pgs_cons (pg_name (i := 7) sc_paths.nd rfl (by first | exact Or.inl rfl | exact Or.inr rfl)) pgs_nil))) (pss_cons (ps_set (i := 8) sc_paths.nd rfl (by first | exact Or.inl rfl | exact Or.inr rfl) (pe_call (ok_object_of W) (hr.mono (by decide)) rfl W.g_object_of W.F_object_of.kp W.b_object_of .nil pass0 (pa_cons (pv 0) (pa_cons (pv 7) pa_nil))))
      (pss_one (ps_if (PW.pt (pw_and (pt_cmpR op_isnotU (pv 8) pe_non (by first | exact nomark _ | rfl)) (pw_and1 (pt_cmpR (op_ninU hu1) (pv 8) (pv 1) (by first | exact nomark _ | rfl))))) (pss_cons (ps_dput hu1 (pv 1) (pv 8) (pv 6) rfl)
      (pss_cons (ps_set (i := 9) sc_paths.nd rfl (by first | exact Or.inl rfl | exact Or.inr rfl) (pe_call (ok_row_of W) (hr.mono (by decide)) rfl W.g_row_of W.F_row_of.kp W.b_row_of .nil pass0 (pa_cons (pv 0) (pa_cons (pv 8) pa_nil))))
      (pss_one (ps_expr (pe_bm PySem.F.plainAttrs_list PySem.F.slot_list_extend PySem.F.type_list_extend mt_extend (pv 5) (pa_cons (pe_lc (own := [("k", 4)]) (g := gName 4) (tt := tYes) rfl sc_paths.nd (pi_range1 (by rfl) W.n_range (pa_cons (pe_callB call_lenU (by rfl) W.n_len bb_len (pa_cons (pv 9) pa_nil)) pa_nil)) (blkOk_by (N := N_paths) (sc := defScope s_paths) (by decide +kernel)) (fun _ _ _ _ _ => (pg_name (i := 4) sc_paths.nd rfl (by first | exact Or.inl rfl | exact Or.inr rfl))) (fun _ _ _ _ _ => pts_nil) (fun _ _ _ _ _ => (pe_tup (pa_cons (pe_op (op_addUK (K := K) rfl) (pv 6) (pe_tup (pa_cons (pv 4) pa_nil))) (pa_cons (pe_ix (ix_UK (K := K) rfl (by exact hu1)) (pv 9) (pv 4) (fun _ _ => rfl)) pa_nil))))) pa_nil)))))) pss_nil))))
      (pss_one (ps_set (i := 3) sc_paths.nd rfl (by first | exact Or.inl rfl | exact Or.inr rfl) (pv 5))))))
      (pss_one (ps_ret (pv 1))))))), ?_⟩
  refine z_start (σ := [some _, none, none, none, none, none, none, none, none, none]) rfl ?_
  one_sign
  obtain ⟨dxs, st, dx, wl, pl, pr, rt, hd, al, co, least, kvs, rfl, ss⟩ := S0
  have hRl : R.length = O.length := by rw [← hO, List.length_map]
  intro D H1 hD f1 D1
  have ss1 := ss.keep f1
  have hsp := ss1.S.sp
  one_sign
  refine ⟨sp, dxs, st, pr, rt, hd, al, co, rs, hs, rfl, ss1.S, by have := ss.rl; omega, by have := ss.hl; omega, fun ra H2 hra hra0 f2 => ?_⟩
  have hr0l : (0 :: (rs ++ hs)).length ≤ 30 := by rw [List.length_cons, List.length_append]; have := ss.rl; have := ss.hl; omega
  generalize hr0 : 0 :: (rs ++ hs) = r0 at hra k hr0l
  one_sign
  rw [List.length_map]
  refine z_rng1 r0.length rfl (by omega) ?_
  refine z_lcR (fun i xs H' => ∃ W : List Wti, xs = wtL W ∧ WtI H' W ∧ wtP W = (lay R r0 0).2.take i) (fun _ _ _ _ => ⟨[], rfl, fun x hx => (by cases hx), rfl⟩) ?_ ?_
  · intro L i xs H3 hL hi hl hW hx f3
    obtain ⟨W, rfl, hI, hP⟩ := hW
    obtain ⟨x, hxi⟩ : ∃ x, r0[i]? = some x := ⟨_, List.getElem?_eq_getElem hi⟩
    leaf_len
    refine z_newL (by show 1 ≤ sizeLine; decide) fun pa H4 hpa f4 p4 => ?_
    one_sign
    refine z_ixL (f4.g0 (f3.g0 hra)) (by rw [Int.zero_add]; exact atI_nat (int_at hxi)) ?_
    one_sign
    refine z_newL (by show 2 ≤ sizeLine; decide) fun a H5 ha f5 a5 => ?_
    refine z_lcY hL (f5.g0 (f4.g0 hx)) ((f3.trans f4).trans f5) hl (by rw [sizeLine_eq]; omega) fun H6 f6 _ _ => ?_
    have t6 : TP H5 H6 := f6.tp1 (f5.g0 (f4.g0 hx)) (by intro _ z; cases z)
    refine ⟨W ++ [(a, pa, [(i : Int)], x)], by unfold wtL; rw [List.map_append]; rfl, ((hI.mono (f4.trans f5).tp).app (fun y hy => ?_)).mono t6, ?_⟩
    · rw [List.mem_singleton.mp hy]
      refine ⟨a5, ?_⟩
      have := f5.g0 p4
      rw [Int.zero_add] at this
      exact this
    · unfold wtP at hP ⊢
      rw [List.map_append, hP, List.take_succ]
      congr 1
      show _ = ((r0.mapIdx fun k w => ([(k : Int)], w))[i]?).toList
      rw [List.getElem?_mapIdx, hxi]; rfl
  intro wA xs H3 hwA hW hl hw3 f3
  obtain ⟨W, rfl, hI, hP⟩ := hW
  have hP : wtP W = (lay R r0 0).2 := by rw [hP]; exact List.take_of_length_le (by show (r0.mapIdx _).length ≤ _; rw [List.length_mapIdx]; exact Nat.le_refl _)
  have D3 := f3.g0 (f2.g0 D1)
  have f13 := (f1.trans f2).trans f3
  one_sign
  refine ⟨fun m σ H' => ∃ (i : Nat) (wA : Addr) (W : List Wti) (F : List Fdi) (v5 v6 v7 v8 v9 : Option V), σ = [some (.ref sp), some (.ref D), some (.ref ra), some (.ref wA), none, v5, v6, v7, v8, v9] ∧ H' D = some (.dK (fdK F)) ∧ FdI H' F ∧ fdP F = (lay R r0 i).1 ∧ H' wA = some (.lst (wtL W)) ∧ WtI H' W ∧ wtP W = (lay R r0 i).2 ∧ Fr [] H H' ∧ m = R.length + 2 - i,
    ⟨_, 0, wA, W, [], _, _, _, _, _, rfl, D3, fun x hx => (by cases hx), rfl, hw3, hI, hP, f13, rfl⟩, ?_⟩
  clear D3 f13 f3 hw3 hI hP hl
  rintro m σ H3 ⟨i, wA, W, F, v5, v6, v7, v8, v9, rfl, D3, hFI, hFP, hw3, hI, hP, f3, rfl⟩
  one_sign
  by_cases hW : W = []
  · subst hW
    refine iteF ?_
    one_sign
    exact k D F H3 hD D3 hFI (by rw [hFP]; exact best_of R r0 hP.symm) f3
  have hne : wtL W ≠ [] := fun e => hW (List.map_eq_nil_iff.mp e)
  have hWl : (lay R r0 i).2 ≠ [] := by rw [← hP]; exact fun e => hW (List.map_eq_nil_iff.mp e)
  have hiR : i ≤ R.length := Nat.le_trans (lay_grow R r0 i hWl) (lay_inv R r0 i).len
  refine iteNE hne ?_
  refine ⟨_, fun _ _ z => z, ?_⟩
  one_sign
  refine z_newL (by show 0 ≤ sizeLine; decide) fun la H4 hla f4 l4 => ?_
  have hw4 := f4.g0 hw3
  one_sign
  have nlw : la ≠ wA := (ne_of_none hw3 hla).symm
  have hla0 : H la = none := f3.none hla
  refine for_list (K := K) (a := wA) (xs := wtL W) (fun j σ H' => ∃ (F' : List Fdi) (W' : List Wti) (v6 v7 v8 v9 : Option V), σ = [some (.ref sp), some (.ref D), some (.ref ra), some (.ref wA), none, some (.ref la), v6, v7, v8, v9] ∧ H' D = some (.dK (fdK F')) ∧ FdI H' F' ∧ fdP F' = rnd R (lay R r0 i).1 ((wtP W).take j) ∧ H' la = some (.lst (wtL W')) ∧ WtI H' W' ∧ wtP W' = ((fdP F').drop (lay R r0 i).1.length).flatMap (chl R) ∧ H' wA = some (.lst (wtL W)) ∧ WtI H' W ∧ Fr [] H H')
    ⟨F, [], v6, v7, v8, v9, rfl, f4.g0 D3, hFI.mono f4.tp, hFP, l4, fun x hx => (by cases hx), by rw [hFP, List.drop_length]; rfl, hw4, hI.mono f4.tp, f3.trans f4⟩ (fun j σ H' _ hI => ?_) (fun j x σ H5 hx hI => ?_) (fun σ H5 hI => ?_)
  · obtain ⟨F', W', v6, v7, v8, v9, _, _, _, _, _, _, _, h, _⟩ := hI
    exact SqL.of h
  · obtain ⟨F', W', v6, v7, v8, v9, rfl, D5, hFI5, hFP5, l5, hI5, hP5, hw5, hIW, f5⟩ := hI
    unfold wtL at hx
    rw [List.getElem?_map] at hx
    obtain ⟨y, hy, rfl⟩ := Option.map_eq_some_iff.mp hx
    obtain ⟨y1, y2⟩ := hIW y (List.mem_of_getElem? hy)
    have hyP : (wtP W)[j]? = some (y.2.2.1, y.2.2.2) := by unfold wtP; rw [List.getElem?_map, hy]; rfl
    have hstep : rnd R (lay R r0 i).1 ((wtP W).take (j + 1)) = rnd1 R (fdP F') (y.2.2.1, y.2.2.2) := by
      rw [hFP5, List.take_succ, hyP]
      unfold rnd
      rw [List.foldl_append]
      rfl
    have invF : FInv R (fdP F') := by rw [hFP5]; exact FInv.rnd _ (lay_inv R r0 i)
    have hFl := invF.len
    have hFl' : (fdP F').length = F'.length := List.length_map _
    have hOl := ss.len
    refine z_gtup y1 rfl ?_
    one_sign
    have ss5 := ss.keep f5
    refine ⟨sp, dxs, st, pr, rt, hd, al, co, rs, hs, dx, wl, pl, _, _, least, O, kvs, y.2.2.2, rfl, ss5.S, ss5.T, ss5.G, fun he hlv => ?_, fun hno => ?_⟩
    · have hobj := (objN_live (n := y.2.2.2 / 2) hO ix ss.lv).mpr ⟨he, hlv, rfl⟩
      one_sign
      rw [fdK_some, ← fdP_fst]
      by_cases hm : y.2.2.2 / 2 ∈ (fdP F').map (·.1)
      · rw [decide_eq_true hm]
        one_sign
        have e : rnd1 R (fdP F') (y.2.2.1, y.2.2.2) = fdP F' := by
          unfold rnd1
          rw [hobj]
          simp only [if_pos hm]
        exact ⟨F', W', _, _, _, _, rfl, D5, hFI5, by rw [hstep, e], l5, hI5, hP5, hw5, hIW, f5⟩
      rw [decide_eq_false hm]
      one_sign
      have e : rnd1 R (fdP F') (y.2.2.1, y.2.2.2) = fdP F' ++ [(y.2.2.2 / 2, y.2.2.1)] := by
        unfold rnd1
        rw [hobj]
        simp only [if_neg hm]
      refine z_dputI D5 (by show (fdK F').length < _; unfold fdK; rw [List.length_map, sizeLine_eq]; omega) fun H6 f6 D6 n6 => ?_
      rw [fdK_put (p := y.2.2.1) (by rw [← fdP_fst]; exact hm)] at D6
      have t56 : TP H5 H6 := f6.tp1 D5 (by intro _ z; cases z)
      have f06 := f5.in f6 hD
      have ss6 := ss.keep f06
      have l6 := f6.g l5 (nin (ne_of l5 D5 (by intro z; cases z)))
      have w6 := f6.g hw5 (nin (ne_of hw5 D5 (by intro z; cases z)))
      obtain ⟨jj, o, ho, hlo, hon⟩ := hlv
      have hjj := ix jj o ho
      have so := ss.sz o (List.mem_of_getElem? ho)
      one_sign
      rw [← hon]
      refine ⟨sp, dxs, st, pr, rt, hd, al, co, rs, hs, dx, wl, pl, _, _, least, O, kvs, jj, o, rfl, ss6.S, ss6.T, ss6.G, ho, hlo, by omega, fun q H7 hq q7 f7 => ?_⟩
      have l7 := f7.g0 l6
      have rl : (rowOf o).length = o.sl.length + 1 := rfl
      one_sign
      rw [List.length_map]
      refine z_rng1 (rowOf o).length rfl (by omega) ?_
      have y27 := f7.g0 (t56 _ _ y2)
      have hch : chl R (o.num, y.2.2.1) = (rowOf o).mapIdx fun k w => (y.2.2.1 ++ [(k : Int)], w) := by
        unfold chl
        rw [hjj, row_at hO ho]
      have hyl : y.2.2.1.length ≤ 1000 := by
        have h := (lay_len R r0 i).1 (y.2.2.1, y.2.2.2) (by rw [← hP]; exact List.mem_of_getElem? hyP)
        have h : y.2.2.1.length = i + 1 := h
        omega
      have hyn : y.2.2.1.map V.int ≠ [] := fun e => by
        have h := (lay_len R r0 i).1 (y.2.2.1, y.2.2.2) (by rw [← hP]; exact List.mem_of_getElem? hyP)
        have h : y.2.2.1.length = i + 1 := h
        rw [List.map_eq_nil_iff.mp e] at h
        simp at h
      refine z_lcR (fun i xs H' => ∃ V' : List Wti, xs = wtL V' ∧ WtI H' V' ∧ wtP V' = (chl R (o.num, y.2.2.1)).take i) (fun _ _ _ _ => ⟨[], rfl, fun x hx => (by cases hx), rfl⟩) ?_ ?_
      · intro L i2 xs H8 hL hi hl hV hx f8
        obtain ⟨V', rfl, hI8, hP8⟩ := hV
        obtain ⟨x, hxi⟩ : ∃ x, (rowOf o)[i2]? = some x := ⟨_, List.getElem?_eq_getElem hi⟩
        leaf_len
        refine z_newL (by show 1 ≤ sizeLine; decide) fun pa H9 hpa f9 p9 => ?_
        one_sign
        refine z_addT (f9.g0 (f8.g0 y27)) p9 (by rw [List.length_map, sizeLine_eq]; show _ + 1 ≤ _; omega) hyn (by simp) fun pb H10 hpb f10 p10 => ?_
        one_sign
        refine z_ixL (f10.g0 (f9.g0 (f8.g0 q7))) (by rw [Int.zero_add]; exact atI_nat (int_at hxi)) ?_
        one_sign
        refine z_newL (by show 2 ≤ sizeLine; decide) fun a H11 ha f11 a11 => ?_
        have hx11 := f11.g0 (f10.g0 (f9.g0 hx))
        refine z_lcY hL hx11 (((f8.trans f9).trans f10).trans f11) hl (by rw [sizeLine_eq]; omega) fun H12 f12 _ _ => ?_
        have t12 : TP H11 H12 := f12.tp1 hx11 (by intro _ z; cases z)
        refine ⟨V' ++ [(a, pb, y.2.2.1 ++ [(i2 : Int)], x)], by unfold wtL; rw [List.map_append]; rfl, ((hI8.mono ((f9.trans f10).trans f11).tp).app (fun z hz => ?_)).mono t12, ?_⟩
        · rw [List.mem_singleton.mp hz]
          refine ⟨a11, ?_⟩
          have := f11.g0 p10
          rw [this, Int.zero_add, List.map_append]
          rfl
        · unfold wtP at hP8 ⊢
          rw [List.map_append, hP8, List.take_succ]
          congr 1
          rw [hch, List.getElem?_mapIdx, hxi]; rfl
      intro L xs H8 hL hV hl hx8 f8
      obtain ⟨V', rfl, hI8, hP8⟩ := hV
      have hP8 : wtP V' = chl R (o.num, y.2.2.1) := by rw [hP8]; exact List.take_of_length_le (by rw [hch, List.length_mapIdx]; exact Nat.le_refl _)
      have hVl : (wtL V').length ≤ 20 := by
        have := congrArg List.length hP8
        unfold wtP at this
        rw [List.length_map, hch, List.length_mapIdx] at this
        unfold wtL
        rw [List.length_map]
        omega
      have l8 := f8.g0 l7
      have f78 := f7.trans f8
      one_sign
      have hWl2 : (wtL W').length ≤ 20 * 59 := by
        have h1 := congrArg List.length hP5
        have h2 := flat_le (G := (fdP F').drop (lay R r0 i).1.length) (R := R) fun r hr => by
          rw [← hO] at hr
          obtain ⟨o', ho', rfl⟩ := List.mem_map.mp hr
          have := ss.sz o' ho'
          show o'.sl.length + 1 ≤ 20
          omega
        rw [List.length_drop] at h2
        unfold wtP at h1
        unfold wtL
        rw [List.length_map] at h1 ⊢
        omega
      refine z_extend l8 hx8 (by rw [sizeLine_eq]; omega) fun H9 f9 l9 n9 => ?_
      have t9 : TP H8 H9 := f9.tp1 l8 (by intro _ z; cases z)
      have t59 : TP H5 H9 := (t56.trans f78.tp).trans t9
      have D9 := f9.g (f78.g0 D6) (nin (ne_of D6 l6 (by intro z; cases z)))
      have w9 := f9.g (f78.g0 w6) (nin nlw.symm)
      refine ⟨F' ++ [(o.num, y.2.1, y.2.2.1)], W' ++ V', _, _, _, _, rfl, by rw [hon]; exact D9, fun z hz => ?_, ?_, ?_, ?_, ?_, w9, hIW.mono t59, (f06.trans f78).in f9 hla0⟩
      · rcases List.mem_append.mp hz with h | h
        · exact (hFI5.mono t59) z h
        · rw [List.mem_singleton.mp h]
          exact t59 _ _ y2
      · rw [hstep, e, ← hon]
        unfold fdP
        rw [List.map_append]; rfl
      · rw [l9]
        unfold wtL
        rw [List.map_append]
      · exact (hI5.mono t59).app (hI8.mono t9)
      · unfold wtP at hP5 hP8 ⊢
        rw [List.map_append, hP5, hP8]
        obtain ⟨G, eG, _⟩ := rnd_ext R ((wtP W).take j) (lay R r0 i).1
        have hge : (lay R r0 i).1.length ≤ (fdP F').length := by rw [hFP5, eG, List.length_append]; omega
        have : fdP (F' ++ [(o.num, y.2.1, y.2.2.1)]) = fdP F' ++ [(o.num, y.2.2.1)] := by unfold fdP; rw [List.map_append]; rfl
        rw [this, List.drop_append_of_le_length hge, List.flatMap_append]
        simp
    · one_sign
      have hobj : objN R y.2.2.2 = none := by
        cases h : objN R y.2.2.2 with
        | none => rfl
        | some n =>
          obtain ⟨h1, h2, _⟩ := (objN_live hO ix ss.lv).mp h
          exact absurd ⟨h1, h2⟩ hno
      have e : rnd1 R (fdP F') (y.2.2.1, y.2.2.2) = fdP F' := by
        unfold rnd1
        rw [hobj]
      exact ⟨F', W', _, _, _, _, rfl, D5, hFI5, by rw [hstep, e], l5, hI5, hP5, hw5, hIW, f5⟩
  · obtain ⟨F', W', v6, v7, v8, v9, rfl, D5, hFI5, hFP5, l5, hI5, hP5, hw5, hIW, f5⟩ := hI
    have e : (wtP W).take (wtL W).length = wtP W := List.take_of_length_le (by unfold wtP wtL; rw [List.length_map, List.length_map]; exact Nat.le_refl _)
    rw [e, hP] at hFP5
    one_sign
    exact ⟨R.length + 2 - (i + 1), by omega, i + 1, la, W', F', _, _, _, _, _, rfl, D5, hFI5, hFP5, l5, hI5, by rw [hP5, hFP5]; rfl, f5, rfl⟩
end

end LX
namespace LX
open PySem PySem.Spec PyProof.Rows L2 NdefX
set_option hygiene false in
local macro_rules | `(tactic| k_memK) => `(tactic| first | exact W.na_Store_room | exact W.na_Store_entries | exact W.na_Store_words | exact W.na_Store__places | exact W.na_Store__least | exact W.na_Space_store | exact W.na_Space_pressure | exact W.na_Space_always | exact W.na_Space_allocations | exact W.na_Space_collections | exact W.na_Space__roots | exact W.na_Space__held | exact W.na_Space__saved)
set_option hygiene false in
local macro_rules | `(tactic| k_ownIn) => `(tactic| first | exact W.C_Store | exact W.C_Space)
local macro_rules | `(tactic| none_booked) => `(tactic| first | assumption | (refine Fr.g0 (by assumption) ?_; none_booked))
local macro_rules | `(tactic| one_sign) => `(tactic| repeat (first
  | refine Stp.h ?_
  | ((with_reducible refine' z_fld1 ?k0 ?k1 ?k2 ?k3 ?_); (case k0 => none_booked); (case k1 => k_ownIn); (case k2 => k_memK); (case k3 => rfl))
  | ((with_reducible refine' z_meth1 ?k0 ?k1 ?_); (case k0 => none_booked); (case k1 => rfl))
  | ((with_reducible refine' z_bmL ?k0 ?_); (case k0 => none_booked))
  | ((with_reducible refine' z_lenL ?k0 ?_); (case k0 => none_booked))
  | ((with_reducible refine' z_lenT ?k0 ?_); (case k0 => none_booked))
  | ((with_reducible refine' z_lenD ?k0 ?_); (case k0 => none_booked))
  | ((with_reducible refine' z_truL ?k0 ?_); (case k0 => none_booked))
  | ((with_reducible refine' z_truD ?k0 ?_); (case k0 => none_booked))
  | ((with_reducible refine' z_truT ?k0 ?_); (case k0 => none_booked))
  | ((with_reducible refine' z_inDIP ?k0 ?_); (case k0 => none_booked))
  | ((with_reducible refine' z_inDIN ?k0 ?_); (case k0 => none_booked))
  | ((with_reducible refine' z_inDfP ?k0 ?_); (case k0 => none_booked))
  | ((with_reducible refine' z_inDfN ?k0 ?_); (case k0 => none_booked))
  | ((with_reducible refine' z_iList1 ?k0 ?_); (case k0 => none_booked))
  | ((with_reducible refine' z_isi0 ?k0 ?k1 ?k2 ?_); (case k0 => exact (ClsV.ty _)); (case k1 => exact (TyX.base (TyOf.lst (by none_booked)))); (case k2 => first | exact kt_list_int | exact kt_list_bool | exact kt_list_str | exact kt_list_list | exact kt_list_tuple | exact kt_list_dict))
  | ((with_reducible refine' z_rI ?k0 ?_); (case k0 => first | exact (by decide : (0 : Int) < _) | exact ⟨by decide, by decide⟩ | exact ⟨by decide, by decide, by decide⟩ | (show (0 : Int) < _; omega)))
  | ((with_reducible refine' z_mulI ?k0 ?_); (case k0 => first | exact Or.inr ⟨by decide, by decide⟩ | exact Or.inl ⟨by decide, by decide⟩ | exact Or.inl ⟨by omega, by omega⟩ | exact Or.inr ⟨by omega, by omega⟩))))
local macro_rules | `(tactic| leaf_len) => `(tactic| (simp only [wipe, List.map_cons, List.map_nil, List.set_cons_zero, List.set_cons_succ]; one_sign; refine z_ok rfl ?_; one_sign))
theorem stepW_mem {row : List Int} {k w : Int} (h : stepW row k = some w) : w ∈ row := by
  unfold stepW at h
  split at h
  · exact List.mem_of_getElem? h
  · cases h
theorem nextRow_mem {R : List (List Int)} {w : Int} {row : List Int} (h : nextRow R w = some row) : row ∈ R := by
  unfold nextRow at h
  split at h
  · exact List.mem_of_getElem? h
  · cases h
theorem wst_evn {R : List (List Int)} {r0 : List Int} (hR : ∀ r ∈ R, ∀ x ∈ r, Evn x) (h0 : ∀ x ∈ r0, Evn x) {s : Option (Option Int)} {k : Int} {w : Int} (h : wst R r0 s k = some (some w)) : Evn w := by
  cases s with
  | none => cases h
  | some s => cases s with
    | none =>
      obtain ⟨x, hx, e⟩ := Option.map_eq_some_iff.mp (show (stepW r0 k).map some = some (some w) from h)
      cases e
      exact h0 _ (stepW_mem hx)
    | some v =>
      obtain ⟨x, hx, e⟩ := Option.map_eq_some_iff.mp (show ((nextRow R v).bind fun row => stepW row k).map some = some (some w) from h)
      cases e
      obtain ⟨row, hr, hs⟩ := Option.bind_eq_some_iff.mp hx
      exact hR row (nextRow_mem hr) _ (stepW_mem hs)
theorem walkS_evn {R : List (List Int)} {r0 : List Int} (hR : ∀ r ∈ R, ∀ x ∈ r, Evn x) (h0 : ∀ x ∈ r0, Evn x) {p : List Int} {w : Int} (h : walkS R r0 p = some (some w)) : Evn w := by
  rcases List.eq_nil_or_concat p with e | ⟨q, k, e⟩
  · subst e; cases h
  · subst e
    unfold walkS at h
    rw [List.concat_eq_append, List.foldl_append] at h
    exact wst_evn hR h0 h
section
variable {P : Program} {w : World} {K : PySem.W.Frag} {mg : Str → Option Value} {base : Heap}
/-- a list or tuple of numbers -/
def Sq (H : Hp) (a : Addr) (p : List Int) : Prop := H a = some (.lst (p.map V.int)) ∨ H a = some (.tup (p.map V.int))
theorem Sq.keep {H H' : Hp} {a : Addr} {p : List Int} (h : Sq H a p) (f : Fr [] H H') : Sq H' a p := h.imp f.g0 f.g0
theorem z_lenE {H : Hp} {Q : VK} {a : Addr} {p : List Int} (h1 : Sq H a p) (h : Q (.int p.length) H) : rLenU K [.ref a] H Q := by
  rcases h1 with h1 | h1
  · exact z_lenL h1 (by rw [List.length_map]; exact h)
  · exact z_lenT h1 (by rw [List.length_map]; exact h)
theorem z_ixE {H : Hp} {Q : VK} {a : Addr} {p : List Int} {i : Nat} {x : Int} (h1 : Sq H a p) (h2 : p[i]? = some x) (h : Q (.int x) H) : rIxU K (.ref a) (.int (0 + (i : Int))) H Q := by
  rw [Int.zero_add]
  rcases h1 with h1 | h1
  · exact z_ixL h1 (atI_nat (int_at h2)) h
  · exact z_ixT h1 (atI_nat (int_at h2)) h
/-- the law's own rows -/
structure LR (H : Hp) (ra wa : Addr) (A : List Addr) (R : List (List Int)) (ws : List Int) : Prop where
  ra : H ra = some (.lst (A.map V.ref))
  rows : RwL H A R
  wa : H wa = some (.lst (ws.map V.int))
  eR : ∀ r ∈ R, ∀ x ∈ r, Evn x
  eW : ∀ x ∈ ws, Evn x
  lR : R.length ≤ 59
  lr : ∀ r ∈ R, 1 ≤ r.length ∧ r.length ≤ 20
  lw : 16 ≤ ws.length ∧ ws.length ≤ 20
theorem LR.keep {H H' : Hp} {ra wa : Addr} {A : List Addr} {R : List (List Int)} {ws : List Int} (h : LR H ra wa A R ws) (f : Fr [] H H') : LR H' ra wa A R ws := ⟨f.g0 h.ra, h.rows.mono f, f.g0 h.wa, h.eR, h.eW, h.lR, h.lr, h.lw⟩
theorem LR.e0 {H : Hp} {ra wa : Addr} {A : List Addr} {R : List (List Int)} {ws : List Int} (h : LR H ra wa A R ws) : ∀ x ∈ 0 :: ws, Evn x := fun x hx => by
  rcases List.mem_cons.mp hx with e | e
  · rw [e]; intro _; omega
  · exact h.eW x e
def sp_lwalk : Sp := fun vs H Q _ => ∃ ra wa pa A R ws p, vs = [.ref ra, .ref wa, .ref pa] ∧ LR H ra wa A R ws ∧ Sq H pa p ∧ p.length ≤ 1000 ∧
  ∀ H', Fr [] H H' → Q (optV (walkW R (0 :: ws) p)) H'
theorem ok__law_walk (W : WT P K mg base) : FnOk P w K mg base CX0 1 W.f__law_walk W.fd__law_walk ["_law_rows_here", "_law_words", "_law_path"] sp_lwalk := by
  refine W.F__law_walk.ok sc__law_walk (fun vs H Q E h => by obtain ⟨ra, wa, pa, A, R, ws, p, rfl, L, hpa, hp, k⟩ := h; rfl) (fun cdv A outer s H vs Q E hr h => ?_)
  obtain ⟨ra, wa, pa, A, R, ws, p, rfl, L, hpa, hp, k⟩ := h
  have hu1 := hu_of hr
  have hu64 := hu64_of hr
  refine ⟨_, (pss_cons (ps_set (i := 3) sc__law_walk.nd rfl (by first | exact Or.inl rfl | exact Or.inr rfl) (pe_op op_addU (pe_lst (pa_cons pe_int pa_nil)) (pv 1)))
      (pss_cons (ps_set (i := 4) sc__law_walk.nd rfl (by first | exact Or.inl rfl | exact Or.inr rfl) pe_non)
      (pss_cons (ps_for PassesOwn.never rfl (pi_range1 (by rfl) W.n_range (pa_cons (pe_callB call_lenU (by rfl) W.n_len bb_len (pa_cons (pv 2) pa_nil)) pa_nil)) (pg_name (i := 5) sc__law_walk.nd rfl (by first | exact Or.inl rfl | exact Or.inr rfl)) (Evl.pss_cut (ps_if (pt_cmpR op_gtU (pv 5) pe_int (by first | exact nomark _ | rfl)) (pss_cons (ps_if (PW.pt (pw_or (pt_cmpR (op_eqU hu64) (pe_op op_mod (pv 4) pe_int) pe_int (by first | exact nomark _ | rfl)) (pw_or1 (pt_cmpR op_geU (pe_op op_fdivW (pv 4) pe_int) (pe_callB call_lenU (by rfl) W.n_len bb_len (pa_cons (pv 0) pa_nil)) (by first | exact nomark _ | rfl))))) (pss_one (ps_ret pe_non)) pss_nil)
      (pss_one (ps_set (i := 3) sc__law_walk.nd rfl (by first | exact Or.inl rfl | exact Or.inr rfl) (pe_ix (ix_U hu1) (pv 0) (pe_op op_fdivW (pv 4) pe_int) (fun _ _ => rfl))))) pss_nil)
      (pss_cons (ps_if (PW.pt (pw_or (pt_cmpR op_ltU (pe_ix (ix_U hu1) (pv 2) (pv 5) (fun _ _ => rfl)) pe_int (by first | exact nomark _ | rfl)) (pw_or1 (pt_cmpR op_geU (pe_ix (ix_U hu1) (pv 2) (pv 5) (fun _ _ => rfl)) (pe_callB call_lenU (by rfl) W.n_len bb_len (pa_cons (pv 3) pa_nil)) (by first | exact nomark _ | rfl))))) (pss_one (ps_ret pe_non)) pss_nil)
      (pss_one (ps_set (i := 4) sc__law_walk.nd rfl (by first | exact Or.inl rfl | exact Or.inr rfl) (pe_ix (ix_U hu1) (pv 3) (pe_ix (ix_U hu1) (pv 2) (pv 5) (fun _ _ => rfl)) (fun _ _ => rfl)))))))
      (pss_one (ps_ret (pv 4)))))), ?_⟩
  refine z_start (σ := [some _, some _, some _, none, none, none]) rfl ?_
  one_sign
  refine z_newL (by show 1 ≤ sizeLine; decide) fun q H1 hq f1 q1 => ?_
  one_sign
  refine z_addL q1 (f1.g0 L.wa) (by rw [List.length_map, sizeLine_eq]; have := L.lw; show 1 + ws.length ≤ _; omega) fun r H2 hr f2 r2 => ?_
  have e0 := L.e0
  have r2 : H2 r = some (.lst ((0 :: ws).map V.int)) := r2
  have l0 : (0 :: ws).length ≤ 1000 := by rw [List.length_cons]; have := L.lw; omega
  generalize (0 :: ws) = r0 at r2 k e0 l0
  one_sign
  refine z_lenE (hpa.keep (f1.trans f2)) ?_
  one_sign
  refine z_rng1 p.length rfl (by omega) ?_
  refine for_range (lo := 0) (n := p.length) (fun i σ H' => ∃ (r : Addr) (row : List Int) (sv : Option Int) (v5 : Option V), σ = [some (.ref ra), some (.ref wa), some (.ref pa), some (.ref r), some (optV sv), v5] ∧ walkS R r0 (p.take i) = some sv ∧ H' r = some (.lst (row.map V.int)) ∧ (i = 0 → row = r0 ∧ sv = none) ∧ (0 < i → ∃ w, sv = some w) ∧ row.length ≤ 1000 ∧ Fr [] H H')
    ⟨r, r0, none, _, rfl, rfl, r2, fun _ => ⟨rfl, rfl⟩, fun h => by omega, l0, f1.trans f2⟩ (fun i σ H3 hi hI => ?_) (fun σ H3 hI => ?_)
  · obtain ⟨r, row, sv, v5, rfl, hw, hr3, hi0, hi1, hrl, f3⟩ := hI
    obtain ⟨kk, hk⟩ : ∃ kk, p[i]? = some kk := ⟨_, List.getElem?_eq_getElem hi⟩
    have hnext := walkS_take (R := R) (r0 := r0) hk
    rw [hw] at hnext
    have L3 := L.keep f3
    have hra3 := L3.ra
    have dead : walkS R r0 (p.take (i + 1)) = none → Q V.non H3 := fun h => by
      rw [walkS_dead h] at k
      exact k H3 f3
    one_sign
    refine Evl.q_cut (M := fun σ H' => H' = H3 ∧ ∃ (r : Addr) (row : List Int), σ = [some (.ref ra), some (.ref wa), some (.ref pa), some (.ref r), some (optV sv), some (.int (0 + (i : Int)))] ∧ H3 r = some (.lst (row.map V.int)) ∧ (∀ k, wst R r0 (some sv) k = (stepW row k).map some) ∧ row.length ≤ 1000) ?_ ?_
    · one_sign
      refine iteD (fun h => ?_) (fun h => ?_)
      · have h : (0 : Int) < 0 + (i : Int) := h
        obtain ⟨x, rfl⟩ := hi1 (by omega)
        have hev : Evn x := walkS_evn L.eR e0 hw
        rw [show optV (some x) = V.int x from rfl]
        one_sign
        refine iteD (fun h2 => ?_) (fun h2 => ?_)
        · one_sign
          exact dead (by
            rw [hnext]
            show ((nextRow R x).bind fun row => stepW row kk).map some = _
            unfold nextRow
            rw [if_neg (by omega)]
            rfl)
        one_sign
        rw [List.length_map, L.rows.len]
        refine iteD (fun h3 => ?_) (fun h3 => ?_)
        · have h3 : (R.length : Int) ≤ x / 2 := h3
          one_sign
          exact dead (by
            rw [hnext]
            show ((nextRow R x).bind fun row => stepW row kk).map some = _
            unfold nextRow
            split
            · rw [List.getElem?_eq_none_iff.mpr (by omega)]; rfl
            · rfl)
        have h3 : ¬ (R.length : Int) ≤ x / 2 := h3
        have hx0 : 0 ≤ x := hev (by omega)
        obtain ⟨row2, hr2⟩ : ∃ row2, R[(x / 2).toNat]? = some row2 := ⟨_, List.getElem?_eq_getElem (by omega)⟩
        obtain ⟨a, ha⟩ : ∃ a, A[(x / 2).toNat]? = some a := ⟨_, List.getElem?_eq_getElem (by have := L.rows.len; omega)⟩
        one_sign
        refine z_ixL hra3 (by rw [show x / 2 = ((x / 2).toNat : Int) by omega]; exact atI_nat (ref_at ha)) ?_
        one_sign
        refine ⟨rfl, a, row2, rfl, L3.rows.it _ a row2 ha hr2, fun k => ?_, by have := L.lr row2 (List.mem_of_getElem? hr2); omega⟩
        show ((nextRow R x).bind fun row => stepW row k).map some = _
        unfold nextRow
        rw [if_pos ⟨by omega, hx0⟩, hr2]
        rfl
      · have h : ¬ (0 : Int) < 0 + (i : Int) := h
        obtain ⟨rfl, rfl⟩ := hi0 (by omega)
        one_sign
        exact ⟨rfl, r, row, rfl, hr3, fun k => rfl, hrl⟩
    rintro σ H4 ⟨rfl, r, row, rfl, hr3, hst, hrl⟩
    rw [hst] at hnext
    one_sign
    refine z_ixE (hpa.keep f3) hk ?_
    one_sign
    refine iteD (fun h1 => ?_) (fun h1 => ?_)
    · have h1 : kk < 0 := h1
      one_sign
      exact dead (by rw [hnext, stepW_out (by omega)]; rfl)
    · have h1 : ¬ kk < 0 := h1
      one_sign
      refine z_ixE (hpa.keep f3) hk ?_
      one_sign
      rw [List.length_map]
      refine iteD (fun h2 => ?_) (fun h2 => ?_)
      · have h2 : (row.length : Int) ≤ kk := h2
        one_sign
        exact dead (by rw [hnext, stepW_out (by omega)]; rfl)
      · have h2 : ¬ (row.length : Int) ≤ kk := h2
        obtain ⟨x, hx1, hx2⟩ := stepW_in (row := row) (k := kk) (by omega) (by omega)
        one_sign
        refine z_ixE (hpa.keep f3) hk ?_
        one_sign
        refine z_ixL hr3 (by rw [show kk = (kk.toNat : Int) by omega]; exact atI_nat (int_at hx2)) ?_
        one_sign
        exact ⟨r, row, some x, _, rfl, by rw [hnext, hx1]; rfl, hr3, fun h => by omega, fun _ => ⟨x, rfl⟩, hrl, f3⟩
  · obtain ⟨r, row, sv, v5, rfl, hw, hr3, hi0, hi1, hrl, f3⟩ := hI
    rw [List.take_length] at hw
    one_sign
    have e : walkW R r0 p = sv := by unfold walkW; rw [hw]; rfl
    rw [← e]
    exact k H3 f3
end

end LX
namespace LX
open PySem PySem.Spec PyProof.Rows L2 NdefX
set_option hygiene false in
local macro_rules | `(tactic| k_memK) => `(tactic| first | exact W.na_Store_room | exact W.na_Store_entries | exact W.na_Store_words | exact W.na_Store__places | exact W.na_Store__least | exact W.na_Space_store | exact W.na_Space_pressure | exact W.na_Space_always | exact W.na_Space_allocations | exact W.na_Space_collections | exact W.na_Space__roots | exact W.na_Space__held | exact W.na_Space__saved)
set_option hygiene false in
local macro_rules | `(tactic| k_ownIn) => `(tactic| first | exact W.C_Store | exact W.C_Space)
local macro_rules | `(tactic| none_booked) => `(tactic| first | assumption | (refine Fr.g0 (by assumption) ?_; none_booked))
local macro_rules | `(tactic| one_sign) => `(tactic| repeat (first
  | refine Stp.h ?_
  | ((with_reducible refine' z_fld1 ?k0 ?k1 ?k2 ?k3 ?_); (case k0 => none_booked); (case k1 => k_ownIn); (case k2 => k_memK); (case k3 => rfl))
  | ((with_reducible refine' z_meth1 ?k0 ?k1 ?_); (case k0 => none_booked); (case k1 => rfl))
  | ((with_reducible refine' z_bmL ?k0 ?_); (case k0 => none_booked))
  | ((with_reducible refine' z_lenL ?k0 ?_); (case k0 => none_booked))
  | ((with_reducible refine' z_lenT ?k0 ?_); (case k0 => none_booked))
  | ((with_reducible refine' z_lenD ?k0 ?_); (case k0 => none_booked))
  | ((with_reducible refine' z_truL ?k0 ?_); (case k0 => none_booked))
  | ((with_reducible refine' z_truD ?k0 ?_); (case k0 => none_booked))
  | ((with_reducible refine' z_truT ?k0 ?_); (case k0 => none_booked))
  | ((with_reducible refine' z_inDIP ?k0 ?_); (case k0 => none_booked))
  | ((with_reducible refine' z_inDIN ?k0 ?_); (case k0 => none_booked))
  | ((with_reducible refine' z_inDfP ?k0 ?_); (case k0 => none_booked))
  | ((with_reducible refine' z_inDfN ?k0 ?_); (case k0 => none_booked))
  | ((with_reducible refine' z_iList1 ?k0 ?_); (case k0 => none_booked))
  | ((with_reducible refine' z_isi0 ?k0 ?k1 ?k2 ?_); (case k0 => exact (ClsV.ty _)); (case k1 => exact (TyX.base (TyOf.lst (by none_booked)))); (case k2 => first | exact kt_list_int | exact kt_list_bool | exact kt_list_str | exact kt_list_list | exact kt_list_tuple | exact kt_list_dict))
  | ((with_reducible refine' z_rI ?k0 ?_); (case k0 => first | exact (by decide : (0 : Int) < _) | exact ⟨by decide, by decide⟩ | exact ⟨by decide, by decide, by decide⟩ | (show (0 : Int) < _; omega)))
  | ((with_reducible refine' z_mulI ?k0 ?_); (case k0 => first | exact Or.inr ⟨by decide, by decide⟩ | exact Or.inl ⟨by decide, by decide⟩ | exact Or.inl ⟨by omega, by omega⟩ | exact Or.inr ⟨by omega, by omega⟩))))
local macro_rules | `(tactic| leaf_len) => `(tactic| (simp only [wipe, List.map_cons, List.map_nil, List.set_cons_zero, List.set_cons_succ]; one_sign; refine z_ok rfl ?_; one_sign))
theorem filt_yes {α : Type} {l : List α} {p : α → Bool} {i : Nat} {x : α} (h : l[i]? = some x) (hp : p x = true) : (l.take (i + 1)).filter p = (l.take i).filter p ++ [x] := take_filter_yes h hp
section
variable {P : Program} {w : World} {K : PySem.W.Frag} {mg : Str → Option Value} {base : Heap}
def sp_lext : Sp := fun vs H Q _ => ∃ ra wa fa A R ws F, ∃ len : Nat, vs = [.ref ra, .ref fa, .int (len : Int)] ∧ LR H ra wa A R ws ∧ H fa = some (.dK (fdK F)) ∧ FdI H F ∧ FInv R (fdP F) ∧ (∀ z ∈ F, z.2.2 ≠ [] ∧ z.2.2.length ≤ 1000) ∧
  ∀ la W' H', H la = none → H' la = some (.lst (wtL W')) → WtI H' W' → wtP W' = ((fdP F).filter fun z => decide (z.2.length = len)).flatMap (chl R) → Fr [] H H' → Q (.ref la) H'
theorem ok__law_extended (W : WT P K mg base) : FnOk P w K mg base CX0 1 W.f__law_extended W.fd__law_extended ["_law_rows_here", "_law_found", "_law_paths_here"] sp_lext := by
  refine W.F__law_extended.ok sc__law_extended (fun vs H Q E h => by obtain ⟨ra, wa, fa, A, R, ws, F, len, rfl, L, hfa, hFI, hF, hne, k⟩ := h; rfl) (fun cdv A outer s H vs Q E hr h => ?_)
  obtain ⟨ra, wa, fa, A, R, ws, F, len, rfl, L, hfa, hFI, hF, hne, k⟩ := h
  have hu1 := hu_of hr
  have hu64 := hu64_of hr
  refine ⟨_, (pss_cons (ps_set (i := 3) sc__law_extended.nd rfl (by first | exact Or.inl rfl | exact Or.inr rfl) (pe_lst pa_nil))
      (pss_cons (ps_lock (ps_for PassesOwn.never rfl (pi_keys (pv 1)) (pg_name (i := 4) sc__law_extended.nd rfl (by first | exact Or.inl rfl | exact Or.inr rfl)) (pss_one (ps_if (pt_cmpR (op_eqU hu64) (pe_callB call_lenU (by rfl) W.n_len bb_len (pa_cons (pe_ix (ix_U hu1) (pv 1) (pv 4) (fun _ _ => rfl)) pa_nil)) (pv 2) (by first | exact nomark _ | rfl)) (pss_one (ps_for PassesOwn.never rfl (pi_range1 (by rfl) W.n_range (pa_cons (pe_callB call_lenU (by rfl) W.n_len bb_len (pa_cons (pe_ix (ix_U hu1) (pv 0) (pv 4) (fun _ _ => rfl)) pa_nil)) pa_nil)) (pg_name (i := 5) sc__law_extended.nd rfl (by first | exact Or.inl rfl | exact Or.inr rfl)) (pss_one (ps_expr (pe_bm PySem.F.plainAttrs_list PySem.F.slot_list_append PySem.F.type_list_append mt_append (pv 3) (pa_cons (pe_tup (pa_cons (pe_op op_addU (pe_ix (ix_U hu1) (pv 1) (pv 4) (fun _ _ => rfl)) (pe_tup (pa_cons (pv 5) pa_nil))) (pa_cons (pe_ix (ix_U hu1) (pe_ix (ix_U hu1) (pv 0) (pv 4) (fun _ _ => rfl)) (pv 5) (fun _ _ => rfl)) pa_nil))) pa_nil)))))) pss_nil))))
      (pss_one (ps_ret (pv 3))))), ?_⟩
  refine z_start (σ := [some _, some _, some _, none, none, none]) rfl ?_
  one_sign
  refine z_newL (by show 0 ≤ sizeLine; decide) fun la H1 hla f1 l1 => ?_
  one_sign
  have hfa1 := f1.g0 hfa
  have hFl := hF.len
  have hFl' : (fdP F).length = F.length := List.length_map _
  have hRl := L.lR
  have nlf : la ≠ fa := (ne_of_none hfa hla).symm
  refine z_forK (td := tVar 1) [la] (nin nlf.symm) (fun H' R h => ⟨_, rfl, h⟩) hfa1 (fun i σ H' => ∃ (W' : List Wti) (v4 v5 : Option V), σ = [some (.ref ra), some (.ref fa), some (.int (len : Int)), some (.ref la), v4, v5] ∧ H' la = some (.lst (wtL W')) ∧ WtI H' W' ∧ wtP W' = (((fdP F).take i).filter fun z => decide (z.2.length = len)).flatMap (chl R) ∧ ∃ od, H' fa = some (.frz od (.dK (fdK F)))) (fun od HF L => ?_) (fun od HF i kk v σ H2 Lk hk hi hI f2 hd2 => ?_) (fun σ H2 H3 hI f3 d3 f13 => ?_)
  · exact ⟨[], _, _, rfl, L.f.g l1 (nin nlf), fun x hx => (by cases hx), rfl, _, L.at'⟩
  · obtain ⟨W', v4, v5, rfl, l2, hI2, hP2, _⟩ := hI
    unfold fdK at hk
    rw [List.getElem?_map] at hk
    obtain ⟨z, hz, e⟩ := Option.map_eq_some_iff.mp hk
    cases e
    have hzP : (fdP F)[i]? = some (z.1, z.2.2) := by unfold fdP; rw [List.getElem?_map, hz]; rfl
    have mz := List.mem_of_getElem? hz
    obtain ⟨zn, zl⟩ := hne z mz
    have ok := hF.ok (z.1, z.2.2) (List.mem_of_getElem? hzP)
    have ok0 : 0 ≤ z.1 := ok.1
    have ok1 : z.1 < R.length := ok.2
    have nd : (F.map (·.1)).Nodup := by rw [← fdP_fst]; exact hF.nd
    have gL : ∀ b o, H b = some o → b ≠ fa → H2 b = some o := fun b o e n => f2.g (Lk.f.g (f1.g0 e) (nin n)) (nin fun z => by rw [z, hla] at e; cases e)
    have z2 := gL _ _ (hFI z mz) (ne_of (hFI z mz) hfa (by intro z; cases z))
    have ra2 := gL _ _ L.ra (ne_of L.ra hfa (by intro z; cases z))
    have hAl := L.rows.len
    have i2 : z.1 = (z.1.toNat : Int) := by omega
    obtain ⟨row, hr⟩ : ∃ row, R[z.1.toNat]? = some row := ⟨_, List.getElem?_eq_getElem (by omega)⟩
    obtain ⟨a, ha⟩ : ∃ a, A[z.1.toNat]? = some a := ⟨_, List.getElem?_eq_getElem (by omega)⟩
    have a0 := L.rows.it _ a row ha hr
    have a2 := gL _ _ a0 (ne_of a0 hfa (by intro z; cases z))
    have hrow : rowN R z.1 = row := by unfold rowN; rw [List.getD_eq_getElem?_getD, hr]; rfl
    have rl := L.lr row (List.mem_of_getElem? hr)
    show gName 4 (V.int z.1) _ _ _
    one_sign
    refine z_ixDf hd2 (fdK_val nd mz) ?_
    one_sign
    rw [List.length_map]
    refine iteD (fun h => ?_) (fun h => ?_)
    · have hlen : z.2.2.length = len := by have h : (z.2.2.length : Int) = (len : Int) := h; omega
      have ra2' := ra2
      one_sign
      refine z_ixL ra2 (by rw [i2]; exact atI_nat (ref_at ha)) ?_
      one_sign
      rw [List.length_map]
      refine z_rng1 row.length rfl (by omega) ?_
      have hch : chl R (z.1, z.2.2) = row.mapIdx fun k w => (z.2.2 ++ [(k : Int)], w) := by unfold chl; rw [hrow]
      refine for_range (lo := 0) (n := row.length) (fun j σ H' => ∃ (W2 : List Wti) (v5 : Option V), σ = [some (.ref ra), some (.ref fa), some (.int (len : Int)), some (.ref la), some (.int z.1), v5] ∧ H' la = some (.lst (wtL W2)) ∧ WtI H' W2 ∧ wtP W2 = wtP W' ++ (chl R (z.1, z.2.2)).take j ∧ H' fa = some (.frz od (.dK (fdK F))) ∧ H' z.2.1 = some (.tup (z.2.2.map V.int)) ∧ H' ra = some (.lst (A.map V.ref)) ∧ H' a = some (.lst (row.map V.int)) ∧ Fr [la] HF H')
        ⟨W', _, rfl, l2, hI2, by rw [List.take_zero, List.append_nil], hd2, z2, ra2, a2, f2⟩ (fun j σ H3 hj hI => ?_) (fun σ H3 hI => ?_)
      · obtain ⟨W2, v5, rfl, l3, hI3, hP3, fa3, z3, ra3, a3, f3⟩ := hI
        obtain ⟨x, hx⟩ : ∃ x, row[j]? = some x := ⟨_, List.getElem?_eq_getElem hj⟩
        one_sign
        refine z_ixDf fa3 (fdK_val nd mz) ?_
        one_sign
        refine z_newL (by show 1 ≤ sizeLine; decide) fun pa H4 hpa f4 p4 => ?_
        one_sign
        refine z_addT (f4.g0 z3) p4 (by rw [List.length_map, sizeLine_eq]; show _ + 1 ≤ _; omega) (fun e => zn (List.map_eq_nil_iff.mp e)) (by simp) fun pb H5 hpb f5 p5 => ?_
        one_sign
        refine z_ixL (f5.g0 (f4.g0 ra3)) (by rw [i2]; exact atI_nat (ref_at ha)) ?_
        one_sign
        refine z_ixL (f5.g0 (f4.g0 a3)) (by rw [Int.zero_add]; exact atI_nat (int_at hx)) ?_
        one_sign
        refine z_newL (by show 2 ≤ sizeLine; decide) fun q H6 hq f6 q6 => ?_
        one_sign
        have f36 := (f4.trans f5).trans f6
        have l6 := f36.g0 l3
        have hW2 : (wtL W2).length < sizeLine := by
          have h1 := congrArg List.length hP3
          have h2 := flat_le (R := R) (fun r hr => (L.lr r hr).2) (G := ((fdP F).take i).filter fun z => decide (z.2.length = len))
          have h3 := List.length_filter_le (fun z : Int × List Int => decide (z.2.length = len)) ((fdP F).take i)
          have h4 : ((fdP F).take i).length ≤ 59 := by rw [List.length_take]; omega
          rw [List.length_append, List.length_take, hch, List.length_mapIdx, hP2] at h1
          unfold wtP at h1
          unfold wtL
          rw [List.length_map] at h1 ⊢
          rw [sizeLine_eq]
          omega
        refine z_append l6 hW2 fun H7 f7 l7 n7 => ?_
        have t7 : TP H6 H7 := f7.tp1 l6 (by intro _ z; cases z)
        refine ⟨W2 ++ [(q, pb, z.2.2 ++ [(j : Int)], x)], _, rfl, by rw [l7]; unfold wtL; rw [List.map_append]; rfl, ((hI3.mono f36.tp).app (fun y hy => ?_)).mono t7, ?_, f7.g (f36.g0 fa3) (nin (ne_of (f36.g0 fa3) l6 (by intro z; cases z))), t7 _ _ (f36.g0 z3), f7.g (f36.g0 ra3) (nin ?_), f7.g (f36.g0 a3) (nin ?_), (f3.trans (f36.mono (by simp))).trans f7⟩
        · rw [List.mem_singleton.mp hy]
          refine ⟨q6, ?_⟩
          have := f6.g0 p5
          rw [this, Int.zero_add, List.map_append]
          rfl
        · unfold wtP at hP3 ⊢
          rw [List.map_append, hP3, List.take_succ, List.append_assoc]
          congr 2
          rw [hch, List.getElem?_mapIdx, hx]; rfl
        · intro e; rw [← e, L.ra] at hla; cases hla
        · intro e; rw [← e, a0] at hla; cases hla
      · obtain ⟨W2, v5, rfl, l3, hI3, hP3, fa3, z3, ra3, a3, f3⟩ := hI
        rw [List.take_of_length_le (by rw [hch, List.length_mapIdx]; exact Nat.le_refl _)] at hP3
        one_sign
        refine ⟨⟨W2, _, _, rfl, l3, hI3, ?_, _, fa3⟩, f3⟩
        rw [hP3, hP2, take_filter_yes hzP (by simpa using hlen), List.flatMap_append]
        simp
    · have hlen : ¬ z.2.2.length = len := fun e => h (by show (z.2.2.length : Int) = (len : Int); omega)
      one_sign
      refine ⟨⟨W', _, _, rfl, l2, hI2, ?_, _, hd2⟩, f2⟩
      rw [hP2, take_filter_no hzP (by simpa using hlen)]
  obtain ⟨W', v4, v5, rfl, l2, hI2, hP2, od2, fa2⟩ := hI
  rw [show (fdK F).length = (fdP F).length by unfold fdK fdP; rw [List.length_map, List.length_map], List.take_length] at hP2
  have t3 : TP H2 H3 := f3.tp1 fa2 (by intro _ z; cases z)
  one_sign
  exact k la W' H3 hla (f3.g l2 (nin nlf)) (hI2.mono t3) hP2 (f1.inF f13 (fun q hq => by rw [List.mem_singleton.mp hq]; exact hla))
def sp_lbest : Sp := fun vs H Q _ => ∃ ra wa A R ws, vs = [.ref ra, .ref wa] ∧ LR H ra wa A R ws ∧
  ∀ D F H', H D = none → H' D = some (.dK (fdK F)) → FdI H' F → fdP F = best R (0 :: ws) → Fr [] H H' → Q (.ref D) H'
theorem dpall_ints {H : Hp} : ∀ p : List Int, DpAll K H (p.map V.int) (p.map PyData.int)
  | [] => .nil
  | x :: p => .cons (.int x) (dpall_ints p)
theorem eqv_ints : ∀ p q : List Int, PyData.eqvAll (p.map PyData.int) (q.map PyData.int) = decide (p = q)
  | [], [] => rfl
  | [], _ :: _ => rfl
  | _ :: _, [] => rfl
  | x :: p, y :: q => by
    show (PyData.eqv (.int x) (.int y) && PyData.eqvAll (p.map .int) (q.map .int)) = _
    rw [eqv_ints p q]
    by_cases h : x = y <;> simp [PyData.eqv, h]
theorem lay_evn {R : List (List Int)} {r0 : List Int} (hR : ∀ r ∈ R, ∀ x ∈ r, Evn x) (h0 : ∀ x ∈ r0, Evn x) : ∀ i, ∀ x ∈ (lay R r0 i).2, Evn x.2
  | 0, x, hx => by
    obtain ⟨k, hk⟩ := List.getElem?_of_mem (show x ∈ r0.mapIdx fun k w => ([(k : Int)], w) from hx)
    rw [List.getElem?_mapIdx] at hk
    obtain ⟨w, hw, e⟩ := Option.map_eq_some_iff.mp hk
    rw [← e]
    exact h0 _ (List.mem_of_getElem? hw)
  | i + 1, x, hx => by
    obtain ⟨G, e, s, eW⟩ := lay_G R r0 i
    rw [eW] at hx
    obtain ⟨z, hz, hx⟩ := List.mem_flatMap.mp hx
    obtain ⟨k, _, hk⟩ := chl_path hx
    unfold rowN at hk
    rw [List.getD_eq_getElem?_getD] at hk
    cases hr : R[z.1.toNat]? with
    | none => rw [hr] at hk; simp at hk
    | some row =>
      rw [hr] at hk
      exact hR row (List.mem_of_getElem? hr) _ (List.mem_of_getElem? hk)
theorem lay_ne (R : List (List Int)) (r0 : List Int) : ∀ i, ∀ z ∈ (lay R r0 i).1, z.2 ≠ []
  | 0, z, hz, _ => (by cases hz)
  | i + 1, z, hz, e0 => by
    obtain ⟨G, e, s, eW⟩ := lay_G R r0 i
    rw [e] at hz
    rcases List.mem_append.mp hz with hz | hz
    · exact lay_ne R r0 i z hz e0
    · obtain ⟨x, hx, e1⟩ := List.mem_map.mp (s.subset (List.mem_map_of_mem hz))
      have := (lay_len R r0 i).1 x hx
      rw [e1, e0] at this
      simp at this
def wtE (x : Wti) : PyData := .tuple [.tuple (x.2.2.1.map .int), .int x.2.2.2]
theorem wtE_lt {x y : Wti} (h : x.2.2.1 < y.2.2.1) : PySem.W.dataLe false (fun b : Addr × PyData => b.2) (x.1, wtE x) (y.1, wtE y) = true := by
  show (!PySem.W.dataLt (wtE y) (wtE x)) = true
  unfold wtE
  rw [PySem.W.dataLt_pair (by simp [PySem.W.alike, PySem.W.alike_ints]) (by simp [PySem.W.alike])]
  have ne : PyData.eqv (.tuple (y.2.2.1.map .int)) (.tuple (x.2.2.1.map .int)) = false := by
    show PyData.eqvAll _ _ = false
    rw [eqv_ints]
    exact decide_eq_false fun e => by rw [e] at h; exact List.lt_irrefl _ h
  rw [ne]
  have : PySem.W.dataLt (.tuple (y.2.2.1.map .int)) (.tuple (x.2.2.1.map .int)) = decide (y.2.2.1 < x.2.2.1) := by
    rw [PySem.W.dataLt_tuple]
    exact PySem.W.dataLt_ints _ _
  simp only [Bool.false_eq_true, if_false, this]
  have : ¬ y.2.2.1 < x.2.2.1 := fun z => absurd (List.lt_trans h z) (List.lt_irrefl _)
  simp [this]
theorem ok__law_best (W : WT P K mg base) : FnOk P w K mg base CX0 2 W.f__law_best W.fd__law_best ["_law_rows_here", "_law_words"] sp_lbest := by
  refine W.F__law_best.ok sc__law_best (fun vs H Q E h => by obtain ⟨ra, wa, A, R, ws, rfl, L, k⟩ := h; rfl) (fun cdv A outer s H vs Q E hr h => ?_)
  obtain ⟨ra, wa, A, R, ws, rfl, L, k⟩ := h
  have hu1 := hu_of hr
  have hu64 := hu64_of hr
  refine ⟨_, (pss_cons (ps_set (i := 2) sc__law_best.nd rfl (by first | exact Or.inl rfl | exact Or.inr rfl) pe_dnewK)
      (pss_cons (ps_set (i := 3) sc__law_best.nd rfl (by first | exact Or.inl rfl | exact Or.inr rfl) (pe_op op_addU (pe_lst (pa_cons pe_int pa_nil)) (pv 1)))
      (pss_cons (ps_setLc (i := 4) (own := [("_law_k", 5)]) (g := gName 5) (tt := tYes) rfl sc__law_best.nd rfl rfl (sw_true rfl rfl rfl (by decide +kernel)) (pi_range1 (by rfl) W.n_range (pa_cons (pe_callB call_lenU (by rfl) W.n_len bb_len (pa_cons (pv 3) pa_nil)) pa_nil)) (blkOk_by (N := N__law_best) (sc := defScope s__law_best) (by decide +kernel)) (fun _ _ _ _ _ => (pg_name (i := 5) sc__law_best.nd rfl (by first | exact Or.inl rfl | exact Or.inr rfl))) (fun _ _ _ _ _ => pts_nil) (fun _ _ _ _ _ => (pe_tup (pa_cons (pe_tup (pa_cons (pv 5) pa_nil)) (pa_cons (pe_ix (ix_UK (K := K) rfl (by exact hu1)) (pv 3) (pv 5) (fun _ _ => rfl)) pa_nil)))))
      (pss_cons (ps_for PassesOwn.never rfl (pi_range2 (by rfl) W.n_range (pa_cons pe_int (pa_cons (pe_op op_addU (pe_callB call_lenU (by rfl) W.n_len bb_len (pa_cons (pv 0) pa_nil)) pe_int) pa_nil))) (pg_name (i := 6) sc__law_best.nd rfl (by first | exact Or.inl rfl | exact Or.inr rfl)) (pss_cons (ps_for PassesOwn.never rfl (pi_list (pe_callB (call_sortedT hu64) (by rfl) W.n_sorted bb_sorted (pa_cons (pv 4) pa_nil))) (pg_name (i := 7) sc__law_best.nd rfl (by first | exact Or.inl rfl | exact Or.inr rfl)) (pss_cons (ps_set (i := 8) sc__law_best.nd rfl (by first | exact Or.inl rfl | exact Or.inr rfl) (pe_op op_fdivW (pe_ix (ix_U hu1) (pv 7) pe_int (fun _ _ => rfl)) pe_int))
      (pss_one (ps_if (PW.pt (pw_and (pt_cmpR (op_eqU hu64) (pe_op op_mod (pe_ix (ix_U hu1) (pv 7) pe_int (fun _ _ => rfl)) pe_int) pe_int (by first | exact nomark _ | rfl)) (pw_and (pt_cmpR op_ltU (pv 8) (pe_callB call_lenU (by rfl) W.n_len bb_len (pa_cons (pv 0) pa_nil)) (by first | exact nomark _ | rfl)) (pw_and1 (pt_cmpR (op_ninU hu1) (pv 8) (pv 2) (by first | exact nomark _ | rfl)))))) (pss_one (ps_dput hu1 (pv 2) (pv 8) (pe_ix (ix_U hu1) (pv 7) pe_int (fun _ _ => rfl)) rfl)) pss_nil))))
      (pss_one (ps_set (i := 4) sc__law_best.nd rfl (by first | exact Or.inl rfl | exact Or.inr rfl) (pe_call (ok__law_extended W) (hr.mono (by decide)) rfl W.g__law_extended W.F__law_extended.kp W.b__law_extended .nil pass0 (pa_cons (pv 0) (pa_cons (pv 2) (pa_cons (pv 6) pa_nil))))))))
      (pss_one (ps_ret (pv 2))))))), ?_⟩
  refine z_start (σ := [some _, some _, none, none, none, none, none, none, none]) rfl ?_
  one_sign
  intro D H1 hD f1 D1
  one_sign
  refine z_newL (by show 1 ≤ sizeLine; decide) fun q H2 hq f2 q2 => ?_
  one_sign
  refine z_addL q2 (f2.g0 (f1.g0 L.wa)) (by rw [List.length_map, sizeLine_eq]; have := L.lw; show 1 + ws.length ≤ _; omega) fun r H3 hr f3 r3 => ?_
  have e0 := L.e0
  have r3 : H3 r = some (.lst ((0 :: ws).map V.int)) := r3
  have l0 : (0 :: ws).length ≤ 30 := by rw [List.length_cons]; have := L.lw; omega
  generalize (0 :: ws) = r0 at r3 k e0 l0
  one_sign
  rw [List.length_map]
  refine z_rng1 r0.length rfl (by omega) ?_
  refine z_lcR (fun i xs H' => ∃ W : List Wti, xs = wtL W ∧ WtI H' W ∧ wtP W = (lay R r0 0).2.take i) (fun _ _ _ _ => ⟨[], rfl, fun x hx => (by cases hx), rfl⟩) ?_ ?_
  · intro L2 i xs H3 hL hi hl hW hx f3
    obtain ⟨W, rfl, hI, hP⟩ := hW
    obtain ⟨x, hxi⟩ : ∃ x, r0[i]? = some x := ⟨_, List.getElem?_eq_getElem hi⟩
    leaf_len
    refine z_newL (by show 1 ≤ sizeLine; decide) fun pa H4 hpa f4 p4 => ?_
    one_sign
    refine z_ixL (f4.g0 (f3.g0 r3)) (by rw [Int.zero_add]; exact atI_nat (int_at hxi)) ?_
    one_sign
    refine z_newL (by show 2 ≤ sizeLine; decide) fun a H5 ha f5 a5 => ?_
    refine z_lcY hL (f5.g0 (f4.g0 hx)) ((f3.trans f4).trans f5) hl (by rw [sizeLine_eq]; omega) fun H6 f6 _ _ => ?_
    have t6 : TP H5 H6 := f6.tp1 (f5.g0 (f4.g0 hx)) (by intro _ z; cases z)
    refine ⟨W ++ [(a, pa, [(i : Int)], x)], by unfold wtL; rw [List.map_append]; rfl, ((hI.mono (f4.trans f5).tp).app (fun y hy => ?_)).mono t6, ?_⟩
    · rw [List.mem_singleton.mp hy]
      refine ⟨a5, ?_⟩
      have := f5.g0 p4
      rw [Int.zero_add] at this
      exact this
    · unfold wtP at hP ⊢
      rw [List.map_append, hP, List.take_succ]
      congr 1
      show _ = ((r0.mapIdx fun k w => ([(k : Int)], w))[i]?).toList
      rw [List.getElem?_mapIdx, hxi]; rfl
  intro wA xs H4 hwA hW hl hw4 f4
  obtain ⟨W, rfl, hI, hP⟩ := hW
  have hP : wtP W = (lay R r0 0).2 := by rw [hP]; exact List.take_of_length_le (by show (r0.mapIdx _).length ≤ _; rw [List.length_mapIdx]; exact Nat.le_refl _)
  have D4 := f4.g0 (f3.g0 (f2.g0 D1))
  have f14 := ((f1.trans f2).trans f3).trans f4
  have L4 := L.keep f14
  have ra4 := L4.ra
  one_sign
  have hAl := L.rows.len
  have hR59 := L.lR
  rw [List.length_map, hAl]
  refine z_rng2 (R.length + 1) (by omega) ⟨by omega, by omega, by omega, by omega⟩ ?_
  refine for_range (lo := 1) (n := R.length + 1) (fun i σ H' => ∃ (wA : Addr) (W : List Wti) (F : List Fdi) (v6 v7 v8 : Option V), σ = [some (.ref ra), some (.ref wa), some (.ref D), some (.ref r), some (.ref wA), none, v6, v7, v8] ∧ H' D = some (.dK (fdK F)) ∧ FdI H' F ∧ fdP F = (lay R r0 i).1 ∧ H' wA = some (.lst (wtL W)) ∧ WtI H' W ∧ wtP W = (lay R r0 i).2 ∧ Fr [] H H')
    ⟨_, W, [], _, _, _, rfl, D4, fun x hx => (by cases hx), rfl, hw4, hI, hP, f14⟩ (fun i σ H5 hi hI => ?_) (fun σ H5 hI => ?_)
  · obtain ⟨wA, W, F, v6, v7, v8, rfl, D5, hFI, hFP, hw5, hI, hP, f5⟩ := hI
    one_sign
    have hWl : W.length ≤ 20 * 59 := by
      have h1 := congrArg List.length hP
      unfold wtP at h1
      rw [List.length_map] at h1
      cases i with
      | zero =>
        have : (lay R r0 0).2.length = r0.length := List.length_mapIdx
        omega
      | succ i =>
        obtain ⟨G, e, s, eW⟩ := lay_G R r0 i
        have h2 := flat_le (R := R) (fun r hr => (L.lr r hr).2) (G := G)
        have h3 := (lay_inv R r0 (i + 1)).len
        rw [e, List.length_append] at h3
        rw [eW] at h1
        omega
    have pw : W.Pairwise fun x y => x.2.2.1 < y.2.2.1 := by
      have h := lay_pw R r0 i
      rw [← hP] at h
      unfold wtP at h
      rw [List.map_map] at h
      exact List.pairwise_map.mp h
    refine z_sortT (bs := W.map fun x => (x.1, wtE x)) (by rw [hw5, List.map_map]; rfl) (fun b hb => ?_) (fun b hb b' hb' => ?_) (fun b hb => ?_) (by rw [List.length_map, sizeLine_eq]; omega) (fun b hb => ?_) (List.pairwise_map.mpr (pw.imp fun h => wtE_lt h)) fun sA H6 hsA f6 s6 => ?_
    · obtain ⟨x, hx, rfl⟩ := List.mem_map.mp hb
      obtain ⟨x1, x2⟩ := hI x hx
      exact Dp.tup (SqT.of x1) (.cons (Dp.tup (SqT.of x2) (dpall_ints _)) (.cons (.int _) .nil))
    · obtain ⟨x, hx, rfl⟩ := List.mem_map.mp hb
      obtain ⟨y, hy, rfl⟩ := List.mem_map.mp hb'
      show PySem.W.alike (wtE x) (wtE y) = true
      unfold wtE
      simp [PySem.W.alike, PySem.W.alikeAll, PySem.W.alike_ints]
    · obtain ⟨x, hx, rfl⟩ := List.mem_map.mp hb
      exact ⟨_, _, rfl⟩
    · obtain ⟨x, hx, rfl⟩ := List.mem_map.mp hb
      show (wtE x).depth ≤ 60
      unfold wtE
      simp [PyData.depth, PyData.depthAll, PySem.W.depth_ints]
    have s6 : H6 sA = some (.lst (wtL W)) := by rw [s6, List.map_map]; rfl
    one_sign
    refine for_list (K := K) (a := sA) (xs := wtL W) (fun j σ H' => ∃ (F' : List Fdi) (v7 v8 : Option V), σ = [some (.ref ra), some (.ref wa), some (.ref D), some (.ref r), some (.ref wA), none, some (.int (1 + (i : Int))), v7, v8] ∧ H' D = some (.dK (fdK F')) ∧ FdI H' F' ∧ fdP F' = rnd R (lay R r0 i).1 ((wtP W).take j) ∧ H' sA = some (.lst (wtL W)) ∧ WtI H' W ∧ Fr [] H H')
      ⟨F, _, _, rfl, f6.g0 D5, hFI.mono f6.tp, hFP, s6, hI.mono f6.tp, f5.trans f6⟩ (fun j σ H' _ hI => ?_) (fun j x σ H7 hx hI => ?_) (fun σ H7 hI => ?_)
    · obtain ⟨F', v7, v8, _, _, _, _, h, _⟩ := hI
      exact SqL.of h
    · obtain ⟨F', v7, v8, rfl, D7, hFI7, hFP7, s7, hI7, f7⟩ := hI
      unfold wtL at hx
      rw [List.getElem?_map] at hx
      obtain ⟨y, hy, rfl⟩ := Option.map_eq_some_iff.mp hx
      obtain ⟨y1, y2⟩ := hI7 y (List.mem_of_getElem? hy)
      have hyP : (wtP W)[j]? = some (y.2.2.1, y.2.2.2) := by unfold wtP; rw [List.getElem?_map, hy]; rfl
      have hstep : rnd R (lay R r0 i).1 ((wtP W).take (j + 1)) = rnd1 R (fdP F') (y.2.2.1, y.2.2.2) := by
        rw [hFP7, List.take_succ, hyP]
        unfold rnd
        rw [List.foldl_append]
        rfl
      have invF : FInv R (fdP F') := by rw [hFP7]; exact FInv.rnd _ (lay_inv R r0 i)
      have hFl := invF.len
      have hFl' : (fdP F').length = F'.length := List.length_map _
      have hev : Evn y.2.2.2 := lay_evn L.eR e0 i (y.2.2.1, y.2.2.2) (by rw [← hP]; exact List.mem_of_getElem? hyP)
      have ra7 := f7.g0 L.ra
      have skip : objN R y.2.2.2 = none ∨ (∃ n, objN R y.2.2.2 = some n ∧ n ∈ (fdP F').map (·.1)) → rnd1 R (fdP F') (y.2.2.1, y.2.2.2) = fdP F' := fun h => by
        unfold rnd1
        rcases h with h | ⟨n, h, hm⟩
        · rw [h]
        · rw [h]; simp only [if_pos hm]
      one_sign
      refine z_ixT y1 (atI_nat (j := 1) rfl) ?_
      one_sign
      refine z_ixT y1 (atI_nat (j := 1) rfl) ?_
      one_sign
      refine iteD (fun h1 => ?_) (fun h1 => ?_)
      · one_sign
        rw [List.length_map, hAl]
        have h0 : 0 ≤ y.2.2.2 := hev h1
        refine iteD (fun h2 => ?_) (fun h2 => ?_)
        · have h2 : y.2.2.2 / 2 < (R.length : Int) := h2
          have hobj : objN R y.2.2.2 = some (y.2.2.2 / 2) := by unfold objN; rw [if_pos ⟨h1, by omega, h2⟩]
          one_sign
          rw [fdK_some, ← fdP_fst]
          by_cases hm : y.2.2.2 / 2 ∈ (fdP F').map (·.1)
          · rw [decide_eq_true hm]
            one_sign
            exact ⟨F', _, _, rfl, D7, hFI7, by rw [hstep, skip (Or.inr ⟨_, hobj, hm⟩)], s7, hI7, f7⟩
          · rw [decide_eq_false hm]
            one_sign
            refine z_ixT y1 (atI_nat (j := 0) rfl) ?_
            one_sign
            refine z_dputI D7 (by show (fdK F').length < _; unfold fdK; rw [List.length_map, sizeLine_eq]; omega) fun H8 f8 D8 n8 => ?_
            rw [fdK_put (p := y.2.2.1) (by rw [← fdP_fst]; exact hm)] at D8
            have t8 : TP H7 H8 := f8.tp1 D7 (by intro _ z; cases z)
            one_sign
            refine ⟨F' ++ [(y.2.2.2 / 2, y.2.1, y.2.2.1)], _, _, rfl, D8, fun z hz => ?_, ?_, f8.g s7 (nin (ne_of s7 D7 (by intro z; cases z))), hI7.mono t8, f7.in f8 hD⟩
            · rcases List.mem_append.mp hz with h | h
              · exact (hFI7.mono t8) z h
              · rw [List.mem_singleton.mp h]
                exact t8 _ _ y2
            · rw [hstep]
              unfold rnd1
              rw [hobj]
              simp only [if_neg hm]
              unfold fdP
              rw [List.map_append]; rfl
        · have h2 : ¬ y.2.2.2 / 2 < (R.length : Int) := h2
          one_sign
          exact ⟨F', _, _, rfl, D7, hFI7, by rw [hstep, skip (Or.inl (by unfold objN; rw [if_neg (by omega)]))], s7, hI7, f7⟩
      · one_sign
        exact ⟨F', _, _, rfl, D7, hFI7, by rw [hstep, skip (Or.inl (by unfold objN; rw [if_neg (fun z => h1 z.1)]))], s7, hI7, f7⟩
    · obtain ⟨F', v7, v8, rfl, D7, hFI7, hFP7, s7, hI7, f7⟩ := hI
      have e : (wtP W).take (wtL W).length = wtP W := List.take_of_length_le (by unfold wtP wtL; rw [List.length_map, List.length_map]; exact Nat.le_refl _)
      rw [e, hP] at hFP7
      have hFP8 : fdP F' = (lay R r0 (i + 1)).1 := hFP7
      one_sign
      refine ⟨ra, wa, D, A, R, ws, F', i + 1, by rw [show (1 : Int) + (i : Int) = ((i + 1 : Nat) : Int) by omega]; rfl, L.keep f7, D7, hFI7, by rw [hFP8]; exact lay_inv R r0 (i + 1), fun z hz => ?_, fun la W' H8 hla l8 hI8 hP8 f8 => ?_⟩
      · have mz : (z.1, z.2.2) ∈ (lay R r0 (i + 1)).1 := by rw [← hFP8]; exact List.mem_map.mpr ⟨z, hz, rfl⟩
        refine ⟨fun e => ?_, by have := (lay_len R r0 (i + 1)).2 _ mz; show z.2.2.length ≤ 1000; have h : z.2.2.length ≤ i + 1 := this; omega⟩
        exact lay_ne R r0 (i + 1) _ mz e
      one_sign
      exact ⟨la, W', F', _, _, _, rfl, f8.g0 D7, hFI7.mono f8.tp, hFP8, l8, hI8, by rw [hP8, hFP8]; exact (lay_G2 R r0 i).symm, f7.trans f8⟩
  · obtain ⟨wA, W, F, v6, v7, v8, rfl, D5, hFI, hFP, hw5, hI, hP, f5⟩ := hI
    one_sign
    exact k D F H5 hD D5 hFI hFP f5
end

end LX
namespace LX
open PySem PySem.Spec PyProof.Rows L2 NdefX
set_option hygiene false in
local macro_rules | `(tactic| k_memK) => `(tactic| first | exact W.na_Store_room | exact W.na_Store_entries | exact W.na_Store_words | exact W.na_Store__places | exact W.na_Store__least | exact W.na_Space_store | exact W.na_Space_pressure | exact W.na_Space_always | exact W.na_Space_allocations | exact W.na_Space_collections | exact W.na_Space__roots | exact W.na_Space__held | exact W.na_Space__saved)
set_option hygiene false in
local macro_rules | `(tactic| k_ownIn) => `(tactic| first | exact W.C_Store | exact W.C_Space)
local macro_rules | `(tactic| none_booked) => `(tactic| first | assumption | (refine Fr.g0 (by assumption) ?_; none_booked))
local macro_rules | `(tactic| one_sign) => `(tactic| repeat (first
  | refine Stp.h ?_
  | ((with_reducible refine' z_fld1 ?k0 ?k1 ?k2 ?k3 ?_); (case k0 => none_booked); (case k1 => k_ownIn); (case k2 => k_memK); (case k3 => rfl))
  | ((with_reducible refine' z_meth1 ?k0 ?k1 ?_); (case k0 => none_booked); (case k1 => rfl))
  | ((with_reducible refine' z_bmL ?k0 ?_); (case k0 => none_booked))
  | ((with_reducible refine' z_lenL ?k0 ?_); (case k0 => none_booked))
  | ((with_reducible refine' z_lenT ?k0 ?_); (case k0 => none_booked))
  | ((with_reducible refine' z_lenD ?k0 ?_); (case k0 => none_booked))
  | ((with_reducible refine' z_truL ?k0 ?_); (case k0 => none_booked))
  | ((with_reducible refine' z_truD ?k0 ?_); (case k0 => none_booked))
  | ((with_reducible refine' z_truT ?k0 ?_); (case k0 => none_booked))
  | ((with_reducible refine' z_inDIP ?k0 ?_); (case k0 => none_booked))
  | ((with_reducible refine' z_inDIN ?k0 ?_); (case k0 => none_booked))
  | ((with_reducible refine' z_inDfP ?k0 ?_); (case k0 => none_booked))
  | ((with_reducible refine' z_inDfN ?k0 ?_); (case k0 => none_booked))
  | ((with_reducible refine' z_iList1 ?k0 ?_); (case k0 => none_booked))
  | ((with_reducible refine' z_isi0 ?k0 ?k1 ?k2 ?_); (case k0 => exact (ClsV.ty _)); (case k1 => exact (TyX.base (TyOf.lst (by none_booked)))); (case k2 => first | exact kt_list_int | exact kt_list_bool | exact kt_list_str | exact kt_list_list | exact kt_list_tuple | exact kt_list_dict))
  | ((with_reducible refine' z_rI ?k0 ?_); (case k0 => first | exact (by decide : (0 : Int) < _) | exact ⟨by decide, by decide⟩ | exact ⟨by decide, by decide, by decide⟩ | (show (0 : Int) < _; omega)))
  | ((with_reducible refine' z_mulI ?k0 ?_); (case k0 => first | exact Or.inr ⟨by decide, by decide⟩ | exact Or.inl ⟨by decide, by decide⟩ | exact Or.inl ⟨by omega, by omega⟩ | exact Or.inr ⟨by omega, by omega⟩))))
local macro_rules | `(tactic| leaf_len) => `(tactic| (simp only [wipe, List.map_cons, List.map_nil, List.set_cons_zero, List.set_cons_succ]; one_sign; refine z_ok rfl ?_; one_sign))
theorem ne_of_none' {H : Hp} {a b : Addr} {o : HO} (h : H a = some o) (n : H b = none) : b ≠ a := fun e => by rw [e, h] at n; cases n
section
variable {P : Program} {w : World} {K : PySem.W.Frag} {mg : Str → Option Value} {base : Heap}
def sp_pathis : Sp := fun vs H Q _ => ∃ a b, ∃ p : List Int, vs = [.ref a, .ref b] ∧ H a = some (.tup (p.map V.int)) ∧ H b = some (.tup (p.map V.int)) ∧ p.length ≤ 1000 ∧ Q (.bl true) H
theorem ok__law_path_is (W : WT P K mg base) : FnOk P w K mg base CX0 2 W.f__law_path_is W.fd__law_path_is ["_law_told_here", "_law_due"] sp_pathis := by
  refine W.F__law_path_is.ok sc__law_path_is (fun vs H Q E h => by obtain ⟨a, b, p, rfl, ha, hb, hp, k⟩ := h; rfl) (fun cdv A outer s H vs Q E hr h => ?_)
  obtain ⟨a, b, p, rfl, ha, hb, hp, k⟩ := h
  have hu1 := hu_of hr
  have hu64 := hu64_of hr
  refine ⟨_, (pss_cons (ps_if (PW.pt (pw_or (pt_not (pt_truth (pe_callB call_isi (by rfl) W.n_isinstance bb_isinstance (pa_cons (pv 0) (pa_cons (pe_bt rfl W.n_tuple bb_tuple) pa_nil))) (by intro _; rfl))) (pw_or1 (pt_cmpR (op_neU hu64) (pe_callB call_lenU (by rfl) W.n_len bb_len (pa_cons (pv 0) pa_nil)) (pe_callB call_lenU (by rfl) W.n_len bb_len (pa_cons (pv 1) pa_nil)) (by first | exact nomark _ | rfl))))) (pss_one (ps_ret pe_bl)) pss_nil)
      (pss_cons (ps_for PassesOwn.never rfl (pi_range1 (by rfl) W.n_range (pa_cons (pe_callB call_lenU (by rfl) W.n_len bb_len (pa_cons (pv 1) pa_nil)) pa_nil)) (pg_name (i := 2) sc__law_path_is.nd rfl (by first | exact Or.inl rfl | exact Or.inr rfl)) (pss_one (ps_if (pt_not (pt_truth (pe_call (ok__law_is W) (hr.mono (by decide)) rfl W.g__law_is W.F__law_is.kp W.b__law_is .nil pass0 (pa_cons (pe_ix (ix_U hu1) (pv 0) (pv 2) (fun _ _ => rfl)) (pa_cons (pe_ix (ix_U hu1) (pv 1) (pv 2) (fun _ _ => rfl)) pa_nil))) (by intro _; rfl))) (pss_one (ps_ret pe_bl)) pss_nil)))
      (pss_one (ps_ret pe_bl)))), ?_⟩
  refine z_start (σ := [some _, some _, none]) rfl ?_
  one_sign
  refine z_isi0 (ClsV.ty _) (TyX.base (TyOf.tup ha)) kt_tuple_tuple ?_
  one_sign
  rw [List.length_map]
  rw [decide_eq_true rfl]
  one_sign
  rw [List.length_map]
  refine z_rng1 p.length rfl (by omega) ?_
  refine for_range (lo := 0) (n := p.length) (fun _ σ H' => (∃ v, σ = [some (.ref a), some (.ref b), v]) ∧ H' = H) ⟨⟨_, rfl⟩, rfl⟩ (fun i σ H' hi hI => ?_) (fun σ H' hI => ?_)
  · obtain ⟨⟨v, rfl⟩, rfl⟩ := hI
    obtain ⟨x, hx⟩ : ∃ x, p[i]? = some x := ⟨_, List.getElem?_eq_getElem hi⟩
    one_sign
    refine z_ixT ha (by rw [Int.zero_add]; exact atI_nat (int_at hx)) ?_
    one_sign
    refine z_ixT hb (by rw [Int.zero_add]; exact atI_nat (int_at hx)) ?_
    one_sign
    refine ⟨_, _, rfl, ?_⟩
    one_sign
    rw [decide_eq_true rfl]
    one_sign
    exact ⟨⟨_, rfl⟩, rfl⟩
  · obtain ⟨_, rfl⟩ := hI
    one_sign
    exact k
def sp_told (C CS PT : Addr) : Sp := fun vs H Q _ => ∃ sp ra wa pa X O A rs hs R, ∃ p : List Int, vs = [.ref sp, .ref ra, .ref wa, .ref pa] ∧ Spc C CS PT H sp X O rs hs ∧ O.map rowOf = R ∧ Idx O ∧ LR H ra wa A R (rs ++ hs) ∧ H pa = some (.tup (p.map V.int)) ∧ p.length ≤ 1000 ∧ ∀ H', Fr [] H H' → Q (.bl true) H'
theorem ok__law_told (W : WT P K mg base) : FnOk P w K mg base CX0 5 W.f__law_told W.fd__law_told ["_law_space_here", "_law_rows_here", "_law_words", "_law_path"] (sp_told W.c_Store W.c_Space W.PT_Store_close_up) := by
  refine W.F__law_told.ok sc__law_told (fun vs H Q E h => by obtain ⟨sp, ra, wa, pa, X, O, A, rs, hs, R, p, rfl, S, hO, ix, L, hpa, hp, k⟩ := h; rfl) (fun cdv A outer s H vs Q E hr h => ?_)
  obtain ⟨sp, ra, wa, pa, X, O, A, rs, hs, R, p, rfl, S, hO, ix, L, hpa, hp, k⟩ := h
  have hu1 := hu_of hr
  have hu64 := hu64_of hr
  refine ⟨_, (pss_cons (ps_set (i := 4) sc__law_told.nd rfl (by first | exact Or.inl rfl | exact Or.inr rfl) (pe_call (ok__law_walk W) (hr.mono (by decide)) rfl W.g__law_walk W.F__law_walk.kp W.b__law_walk .nil pass0 (pa_cons (pv 1) (pa_cons (pv 2) (pa_cons (pv 3) pa_nil)))))
      (pss_cons (ps_set (i := 5) sc__law_told.nd rfl (by first | exact Or.inl rfl | exact Or.inr rfl) (pe_call (ok_word_at W) (hr.mono (by decide)) rfl W.g_word_at W.F_word_at.kp W.b_word_at .nil pass0 (pa_cons (pv 0) (pa_cons (pv 3) pa_nil))))
      (pss_cons (ps_if (pt_cmpR op_isU (pv 4) pe_non (by first | exact nomark _ | rfl)) (pss_one (ps_ret (pe_cmpR op_isU (pv 5) pe_non (by first | exact nomark _ | rfl)))) pss_nil)
      (pss_one (ps_ret (pe_call (ok__law_is W) (hr.mono (by decide)) rfl W.g__law_is W.F__law_is.kp W.b__law_is .nil pass0 (pa_cons (pv 5) (pa_cons (pv 4) pa_nil)))))))), ?_⟩
  refine z_start (σ := [some _, some _, some _, some _, none, none]) rfl ?_
  one_sign
  refine ⟨ra, wa, pa, A, R, _, p, rfl, L, Or.inr hpa, hp, fun H1 f1 => ?_⟩
  one_sign
  refine ⟨sp, pa, X, O, rs, hs, R, p, rfl, S.keep f1, hO, ix, f1.g0 hpa, hp, fun H2 f2 => ?_⟩
  have f02 := f1.trans f2
  cases h : walkW R (0 :: (rs ++ hs)) p with
  | none =>
    rw [show optV none = V.non from rfl]
    one_sign
    exact k H2 f02
  | some x =>
    rw [show optV (some x) = V.int x from rfl]
    one_sign
    refine ⟨_, _, rfl, ?_⟩
    rw [decide_eq_true rfl]
    exact k H2 f02
def sp_drawn : Sp := fun vs H Q _ => ∃ ra wa A R ws, ∃ x : Int, vs = [.int x, .ref ra, .ref wa] ∧ LR H ra wa A R ws ∧ 0 ≤ x ∧
  ∀ t (p : List Int) H', H' t = some (.tup (p.map V.int)) → p.length ≤ 5 → Fr [] H H' → Q (.ref t) H'
theorem ok__law_drawn (W : WT P K mg base) : FnOk P w K mg base CX0 2 W.f__law_drawn W.fd__law_drawn ["_law_x", "_law_rows_here", "_law_words"] sp_drawn := by
  refine W.F__law_drawn.ok sc__law_drawn (fun vs H Q E h => by obtain ⟨ra, wa, A, R, ws, x, rfl, L, hx, k⟩ := h; rfl) (fun cdv A outer s H vs Q E hr h => ?_)
  obtain ⟨ra, wa, A, R, ws, x, rfl, L, hx, k⟩ := h
  have hu1 := hu_of hr
  have hu64 := hu64_of hr
  refine ⟨_, (pss_cons (ps_set (i := 3) sc__law_drawn.nd rfl (by first | exact Or.inl rfl | exact Or.inr rfl) (pe_lst pa_nil))
      (pss_cons (ps_set (i := 4) sc__law_drawn.nd rfl (by first | exact Or.inl rfl | exact Or.inr rfl) (pe_op op_addU (pe_lst (pa_cons pe_int pa_nil)) (pv 2)))
      (pss_cons (ps_set (i := 5) sc__law_drawn.nd rfl (by first | exact Or.inl rfl | exact Or.inr rfl) (pe_op op_fdivW (pv 0) pe_int))
      (pss_cons (ps_for PassesOwn.never rfl (pi_range1 (by rfl) W.n_range (pa_cons (pe_op op_mod (pe_callTy call_intU (by rfl) W.n_int bb_int (pa_cons (pv 0) pa_nil)) pe_int) pa_nil)) (pg_name (i := 6) sc__law_drawn.nd rfl (by first | exact Or.inl rfl | exact Or.inr rfl)) (pss_cons (ps_set (i := 7) sc__law_drawn.nd rfl (by first | exact Or.inl rfl | exact Or.inr rfl) (pe_op op_sub (pe_op op_mod (pe_callTy call_intU (by rfl) W.n_int bb_int (pa_cons (pv 5) pa_nil)) (pe_op op_addU (pe_callB call_lenU (by rfl) W.n_len bb_len (pa_cons (pv 4) pa_nil)) pe_int)) pe_int))
      (pss_cons (ps_set (i := 5) sc__law_drawn.nd rfl (by first | exact Or.inl rfl | exact Or.inr rfl) (pe_op op_fdivW (pv 5) pe_int))
      (pss_cons (ps_expr (pe_bm PySem.F.plainAttrs_list PySem.F.slot_list_append PySem.F.type_list_append mt_append (pv 3) (pa_cons (pv 7) pa_nil)))
      (pss_cons (ps_set (i := 4) sc__law_drawn.nd rfl (by first | exact Or.inl rfl | exact Or.inr rfl) (pe_lst pa_nil))
      (pss_cons (ps_set (i := 8) sc__law_drawn.nd rfl (by first | exact Or.inl rfl | exact Or.inr rfl) (pe_call (ok__law_walk W) (hr.mono (by decide)) rfl W.g__law_walk W.F__law_walk.kp W.b__law_walk .nil pass0 (pa_cons (pv 1) (pa_cons (pv 2) (pa_cons (pv 3) pa_nil)))))
      (pss_one (ps_if (PW.pt (pw_and (pt_cmpR op_isnotU (pv 8) pe_non (by first | exact nomark _ | rfl)) (pw_and (pt_cmpR (op_eqU hu64) (pe_op op_mod (pe_callTy call_intU (by rfl) W.n_int bb_int (pa_cons (pv 8) pa_nil)) pe_int) pe_int (by first | exact nomark _ | rfl)) (pw_and1 (pt_cmpR op_ltU (pe_op op_fdivW (pv 8) pe_int) (pe_callB call_lenU (by rfl) W.n_len bb_len (pa_cons (pv 1) pa_nil)) (by first | exact nomark _ | rfl)))))) (pss_one (ps_set (i := 4) sc__law_drawn.nd rfl (by first | exact Or.inl rfl | exact Or.inr rfl) (pe_ix (ix_U hu1) (pv 1) (pe_op op_fdivW (pv 8) pe_int) (fun _ _ => rfl)))) pss_nil))))))))
      (pss_one (ps_ret (pe_callTy call_tupleU (by rfl) W.n_tuple bb_tuple (pa_cons (pv 3) pa_nil)))))))), ?_⟩
  refine z_start (σ := [some _, some _, some _, none, none, none, none, none, none]) rfl ?_
  one_sign
  refine z_newL (by show 0 ≤ sizeLine; decide) fun pl H1 hpl f1 p1 => ?_
  one_sign
  refine z_newL (by show 1 ≤ sizeLine; decide) fun q H2 hq f2 q2 => ?_
  one_sign
  refine z_addL q2 (f2.g0 (f1.g0 L.wa)) (by rw [List.length_map, sizeLine_eq]; have := L.lw; show 1 + ws.length ≤ _; omega) fun r H3 hr f3 r3 => ?_
  have r3 : H3 r = some (.lst ((0 :: ws).map V.int)) := r3
  have lwl := L.lw
  have e1 := Int.emod_nonneg x (by decide : (6 : Int) ≠ 0)
  have e2 := Int.emod_lt_of_pos x (by decide : (0 : Int) < 6)
  one_sign
  refine z_rng1 (x % 6).toNat (by omega) (by omega) ?_
  refine for_range (lo := 0) (n := (x % 6).toNat) (fun i σ H' => ∃ (r : Addr) (row p : List Int) (z : Int) (v6 v7 v8 : Option V), σ = [some (.int x), some (.ref ra), some (.ref wa), some (.ref pl), some (.ref r), some (.int z), v6, v7, v8] ∧ H' pl = some (.lst (p.map V.int)) ∧ p.length = i ∧ H' r = some (.lst (row.map V.int)) ∧ row.length ≤ 30 ∧ r ≠ pl ∧ Fr [] H H')
    ⟨r, 0 :: ws, [], _, _, _, _, rfl, f3.g0 (f2.g0 p1), rfl, r3, by rw [List.length_cons]; omega, ne_of_none' (f2.g0 p1) hr, (f1.trans f2).trans f3⟩ (fun i σ H4 hi hI => ?_) (fun σ H4 hI => ?_)
  · obtain ⟨r, row, p, z, v6, v7, v8, rfl, p4, hl, r4, hrl, nrp, f4⟩ := hI
    one_sign
    rw [List.length_map]
    refine z_append p4 (by rw [List.length_map, sizeLine_eq]; omega) fun H5 f5 h5 n5 => ?_
    have f05 := f4.in f5 hpl
    generalize hst : (z % ((row.length : Int) + 2) - 1 : Int) = stp at h5
    rw [show p.map V.int ++ [V.int stp] = (p ++ [stp]).map V.int by rw [List.map_append]; rfl] at h5
    one_sign
    refine z_newL (by show 0 ≤ sizeLine; decide) fun r2 H6 hr2 f6 r6 => ?_
    have h6 := f6.g0 h5
    have L6 := L.keep (f05.trans f6)
    one_sign
    refine ⟨ra, wa, pl, A, R, ws, p ++ [stp], rfl, L6, Or.inl h6, by rw [List.length_append]; show p.length + 1 ≤ 1000; omega, fun H7 f7 => ?_⟩
    have f07 := (f05.trans f6).trans f7
    have L7 := L.keep f07
    have h7 := f7.g0 h6
    have ra7 := L7.ra
    have lp : (p ++ [stp]).length = i + 1 := by rw [List.length_append, hl]; rfl
    have nr2 : r2 ≠ pl := ne_of_none' h5 hr2
    cases hw : walkW R (0 :: ws) (p ++ [stp]) with
    | none =>
      rw [show optV none = V.non from rfl]
      one_sign
      exact ⟨r2, [], p ++ [stp], _, _, _, _, rfl, h7, lp, f7.g0 r6, by simp, nr2, f07⟩
    | some y =>
      rw [show optV (some y) = V.int y from rfl]
      have hev : Evn y := walkS_evn (p := p ++ [stp]) L.eR L.e0 (by
        unfold walkW at hw
        cases h : walkS R (0 :: ws) (p ++ [stp]) with
        | none => rw [h] at hw; cases hw
        | some s => rw [h] at hw; rw [show s = some y from hw])
      one_sign
      refine iteD (fun h1 => ?_) (fun h1 => ?_)
      · one_sign
        rw [List.length_map, L.rows.len]
        refine iteD (fun h2 => ?_) (fun h2 => ?_)
        · have h2 : y / 2 < (R.length : Int) := h2
          have hy := hev h1
          obtain ⟨row2, hr2'⟩ : ∃ row2, R[(y / 2).toNat]? = some row2 := ⟨_, List.getElem?_eq_getElem (by omega)⟩
          obtain ⟨a, ha⟩ : ∃ a, A[(y / 2).toNat]? = some a := ⟨_, List.getElem?_eq_getElem (by have := L.rows.len; omega)⟩
          one_sign
          refine z_ixL ra7 (by rw [show y / 2 = ((y / 2).toNat : Int) by omega]; exact atI_nat (ref_at ha)) ?_
          one_sign
          have a0 := L.rows.it _ a row2 ha hr2'
          exact ⟨a, row2, p ++ [stp], _, _, _, _, rfl, h7, lp, L7.rows.it _ a row2 ha hr2', by have := L.lr row2 (List.mem_of_getElem? hr2'); omega, fun e => (by rw [e, hpl] at a0; cases a0), f07⟩
        · one_sign
          exact ⟨r2, [], p ++ [stp], _, _, _, _, rfl, h7, lp, f7.g0 r6, by simp, nr2, f07⟩
      · one_sign
        exact ⟨r2, [], p ++ [stp], _, _, _, _, rfl, h7, lp, f7.g0 r6, by simp, nr2, f07⟩
  · obtain ⟨r, row, p, z, v6, v7, v8, rfl, p4, hl, r4, hrl, nrp, f4⟩ := hI
    one_sign
    refine z_tupL p4 fun t H5 ht f5 t5 => ?_
    exact k t p H5 t5 (by omega) (f4.trans f5)
end

end LX
namespace LX
open PySem PySem.Spec PyProof.Rows L2 NdefX
set_option hygiene false in
local macro_rules | `(tactic| k_memK) => `(tactic| first | exact W.na_Store_room | exact W.na_Store_entries | exact W.na_Store_words | exact W.na_Store__places | exact W.na_Store__least | exact W.na_Space_store | exact W.na_Space_pressure | exact W.na_Space_always | exact W.na_Space_allocations | exact W.na_Space_collections | exact W.na_Space__roots | exact W.na_Space__held | exact W.na_Space__saved)
set_option hygiene false in
local macro_rules | `(tactic| k_ownIn) => `(tactic| first | exact W.C_Store | exact W.C_Space)
local macro_rules | `(tactic| none_booked) => `(tactic| first | assumption | (refine Fr.g0 (by assumption) ?_; none_booked))
local macro_rules | `(tactic| one_sign) => `(tactic| repeat (first
  | refine Stp.h ?_
  | ((with_reducible refine' z_fld1 ?k0 ?k1 ?k2 ?k3 ?_); (case k0 => none_booked); (case k1 => k_ownIn); (case k2 => k_memK); (case k3 => rfl))
  | ((with_reducible refine' z_meth1 ?k0 ?k1 ?_); (case k0 => none_booked); (case k1 => rfl))
  | ((with_reducible refine' z_bmL ?k0 ?_); (case k0 => none_booked))
  | ((with_reducible refine' z_lenL ?k0 ?_); (case k0 => none_booked))
  | ((with_reducible refine' z_lenT ?k0 ?_); (case k0 => none_booked))
  | ((with_reducible refine' z_lenD ?k0 ?_); (case k0 => none_booked))
  | ((with_reducible refine' z_truL ?k0 ?_); (case k0 => none_booked))
  | ((with_reducible refine' z_truD ?k0 ?_); (case k0 => none_booked))
  | ((with_reducible refine' z_truT ?k0 ?_); (case k0 => none_booked))
  | ((with_reducible refine' z_inDIP ?k0 ?_); (case k0 => none_booked))
  | ((with_reducible refine' z_inDIN ?k0 ?_); (case k0 => none_booked))
  | ((with_reducible refine' z_inDfP ?k0 ?_); (case k0 => none_booked))
  | ((with_reducible refine' z_inDfN ?k0 ?_); (case k0 => none_booked))
  | ((with_reducible refine' z_iList1 ?k0 ?_); (case k0 => none_booked))
  | ((with_reducible refine' z_isi0 ?k0 ?k1 ?k2 ?_); (case k0 => exact (ClsV.ty _)); (case k1 => exact (TyX.base (TyOf.lst (by none_booked)))); (case k2 => first | exact kt_list_int | exact kt_list_bool | exact kt_list_str | exact kt_list_list | exact kt_list_tuple | exact kt_list_dict))
  | ((with_reducible refine' z_rI ?k0 ?_); (case k0 => first | exact (by decide : (0 : Int) < _) | exact ⟨by decide, by decide⟩ | exact ⟨by decide, by decide, by decide⟩ | (show (0 : Int) < _; omega)))
  | ((with_reducible refine' z_mulI ?k0 ?_); (case k0 => first | exact Or.inr ⟨by decide, by decide⟩ | exact Or.inl ⟨by decide, by decide⟩ | exact Or.inl ⟨by omega, by omega⟩ | exact Or.inr ⟨by omega, by omega⟩))))
local macro_rules | `(tactic| leaf_len) => `(tactic| (simp only [wipe, List.map_cons, List.map_nil, List.set_cons_zero, List.set_cons_succ]; one_sign; refine z_ok rfl ?_; one_sign))
section
variable {P : Program} {w : World} {K : PySem.W.Frag} {mg : Str → Option Value} {base : Heap}
theorem SS.numsP {C CS PT : Addr} {H : Hp} {sp dxs st dx wl pl pr rt hd : Addr} {al co least : Int} {O : List Ob} {kvs : List (Key × V)} {rs hs : List Int} (s : SS C CS PT H sp dxs st dx wl pl pr rt hd al co least O kvs rs hs) : ∃ ms : List Int, kvs.map (·.1) = ms.map Sum.inl ∧ ms.Perm (O.map (·.num)) := by
  obtain ⟨ms, m1, m2⟩ := s.G.ints
  have : O.filter (·.live) = O := List.filter_eq_self.mpr s.lv
  rw [this] at m2
  exact ⟨ms, m1, m2⟩
def upto (n : Nat) : List Int := (List.range n).map fun i : Nat => (i : Int)
theorem upto_sorted (n : Nat) : (upto n).Pairwise (· ≤ ·) := by
  unfold upto
  refine List.pairwise_map.mpr ((List.pairwise_lt_range).imp fun h => by omega)
theorem nums_upto {O : List Ob} (ix : Idx O) : O.map (·.num) = upto O.length := by
  refine List.ext_getElem? fun i => ?_
  unfold upto
  rw [List.getElem?_map, List.getElem?_map]
  by_cases h : i < O.length
  · rw [List.getElem?_eq_getElem h, List.getElem?_range h]
    show some (O[i].num) = some ((i : Nat) : Int)
    rw [ix i _ (List.getElem?_eq_getElem h)]
  · rw [List.getElem?_eq_none_iff.mpr (by omega), List.getElem?_eq_none_iff.mpr (by rw [List.length_range]; omega)]
    rfl
theorem tail_cut (o : Ob) : cutV ((rowOf o).map V.int) (some 1) none = o.sl.map V.int := by
  unfold cutV
  rw [List.length_map]
  have h1 : HT.sIx (rowOf o).length 0 (some 1) = 1 := by
    have := HT.sIx_nat (rowOf o).length 0 1
    rw [show ((1 : Nat) : Int) = 1 from rfl] at this
    rw [this]
    show min 1 (o.sl.length + 1) = 1
    omega
  have h2 : HT.sIx (rowOf o).length (rowOf o).length none = o.sl.length + 1 := rfl
  rw [h1, h2]
  show ((o.sl.map V.int).take (o.sl.length + 1 - 1)) = _
  rw [List.take_of_length_le (by rw [List.length_map]; omega)]
def sp_kept (C CS PT : Addr) : Sp := fun vs H Q _ => ∃ sp ra wa X O A rs hs R, vs = [.ref sp, .ref ra, .ref wa] ∧ Spc C CS PT H sp X O rs hs ∧ O.map rowOf = R ∧ Idx O ∧ LR H ra wa A R (rs ++ hs) ∧ ∀ H', Fr [] H H' → Q (.bl true) H'
theorem ok__law_kept (W : WT P K mg base) : FnOk P w K mg base CX0 3 W.f__law_kept W.fd__law_kept ["_law_space_here", "_law_rows_here", "_law_words"] (sp_kept W.c_Store W.c_Space W.PT_Store_close_up) := by
  refine W.F__law_kept.ok sc__law_kept (fun vs H Q E h => by obtain ⟨sp, ra, wa, X, O, A, rs, hs, R, rfl, S, hO, ix, L, k⟩ := h; rfl) (fun cdv A outer s H vs Q E hr h => ?_)
  obtain ⟨sp, ra, wa, X, O, A, rs, hs, R, rfl, S, hO, ix, L, k⟩ := h
  have hu1 := hu_of hr
  have hu64 := hu64_of hr
  refine ⟨_, (pss_cons (ps_for PassesOwn.never rfl (pi_range1 (by rfl) W.n_range (pa_cons (pe_callB call_lenU (by rfl) W.n_len bb_len (pa_cons (pv 1) pa_nil)) pa_nil)) (pg_name (i := 3) sc__law_kept.nd rfl (by first | exact Or.inl rfl | exact Or.inr rfl)) (pss_one (ps_if (PW.pt (pw_or (pt_cmpR (op_neU hu64) (pe_meth (pe_fld (pv 0) rfl) W.C_Store W.m_Store_kind (ok_Store_kind W) (hr.mono (by decide)) W.b_Store_kind .nil pass0 (pa_cons (pv 3) pa_nil)) (pe_ix (ix_U hu1) (pe_ix (ix_U hu1) (pv 1) (pv 3) (fun _ _ => rfl)) pe_int (fun _ _ => rfl)) (by first | exact nomark _ | rfl)) (pw_or1 (pt_not (pt_truth (pe_call (ok__law_same W) (hr.mono (by decide)) rfl W.g__law_same W.F__law_same.kp W.b__law_same .nil pass0 (pa_cons (pe_meth (pe_fld (pv 0) rfl) W.C_Store W.m_Store_slots (ok_Store_slots W) (hr.mono (by decide)) W.b_Store_slots .nil pass0 (pa_cons (pv 3) pa_nil)) (pa_cons (pe_slice sl_U (pe_ix (ix_U hu1) (pv 1) (pv 3) (fun _ _ => rfl)) (po_some pe_int) po_none) pa_nil))) (by intro _; rfl)))))) (pss_one (ps_ret pe_bl)) pss_nil)))
      (pss_cons (ps_setLc (i := 4) (own := [("_law_k", 3)]) (g := gName 3) (tt := tYes) rfl sc__law_kept.nd rfl rfl (sw_true rfl rfl rfl (by decide +kernel)) (pi_range1 (by rfl) W.n_range (pa_cons (pe_callB call_lenU (by rfl) W.n_len bb_len (pa_cons (pv 1) pa_nil)) pa_nil)) (blkOk_by (N := N__law_kept) (sc := defScope s__law_kept) (by decide +kernel)) (fun _ _ _ _ _ => (pg_name (i := 3) sc__law_kept.nd rfl (by first | exact Or.inl rfl | exact Or.inr rfl))) (fun _ _ _ _ _ => pts_nil) (fun _ _ _ _ _ => (pv 3)))
      (pss_one (ps_ret (pe_and (pe_call (ok__law_same W) (hr.mono (by decide)) rfl W.g__law_same W.F__law_same.kp W.b__law_same .nil pass0 (pa_cons (pe_meth0 (pe_fld (pv 0) rfl) W.C_Store W.m_Store_numbers (ok_Store_numbers W) (hr.mono (by decide)) W.b_Store_numbers .nil pass0 ) (pa_cons (pv 4) pa_nil))) (pe_one (pe_call (ok__law_same W) (hr.mono (by decide)) rfl W.g__law_same W.F__law_same.kp W.b__law_same .nil pass0 (pa_cons (pe_meth0 (pv 0) W.C_Space W.m_Space_all_roots (ok_Space_all_roots W) (hr.mono (by decide)) W.b_Space_all_roots .nil pass0 ) (pa_cons (pe_op op_addU (pe_lst (pa_cons pe_int pa_nil)) (pv 2)) pa_nil))))))))), ?_⟩
  refine z_start (σ := [some _, some _, some _, none, none]) rfl ?_
  one_sign
  obtain ⟨dxs, st, dx, wl, pl, pr, rt, hd, al, co, least, kvs, rfl, ss⟩ := S
  have hRl : R.length = O.length := by rw [← hO, List.length_map]
  have hAl := L.rows.len
  have hR59 := L.lR
  have hra := L.ra
  one_sign
  rw [List.length_map, hAl]
  refine z_rng1 R.length rfl (by omega) ?_
  refine for_range (lo := 0) (n := R.length) (fun i σ H' => (∃ v3, σ = [some (.ref sp), some (.ref ra), some (.ref wa), v3, none]) ∧ Fr [] H H') ⟨⟨_, rfl⟩, Fr.rfl'⟩ (fun i σ H1 hi hI => ?_) (fun σ H1 hI => ?_)
  · obtain ⟨⟨v3, rfl⟩, f1⟩ := hI
    obtain ⟨a, ha⟩ : ∃ a, A[i]? = some a := ⟨_, List.getElem?_eq_getElem (by omega)⟩
    obtain ⟨o, ho⟩ : ∃ o, O[i]? = some o := ⟨_, List.getElem?_eq_getElem (by omega)⟩
    have ss1 := ss.keep f1
    have L1 := L.keep f1
    have hra1 := L1.ra
    have hst1 := ss1.T.st
    have hsp1 := ss1.S.sp
    have a1 := L1.rows.it i a (rowOf o) ha (by rw [← hO, List.getElem?_map, ho]; rfl)
    have hno := ix i o ho
    have hlo := ss.lv o (List.mem_of_getElem? ho)
    have so := ss.sz o (List.mem_of_getElem? ho)
    one_sign
    refine ⟨st, dx, wl, pl, _, _, least, _, kvs, o.num, off O i, o.kind, by rw [hno, Int.zero_add]; rfl, ss1.T, ss.G.at ho hlo, flat_kind ho, ?_⟩
    one_sign
    refine z_ixL hra1 (by rw [Int.zero_add]; exact atI_nat (ref_at ha)) ?_
    one_sign
    refine z_ixL a1 (atI_nat (j := 0) rfl) ?_
    one_sign
    rw [decide_eq_true rfl]
    one_sign
    refine ⟨st, dx, wl, pl, _, _, least, _, kvs, o.num, off O i, o.sl.length, by rw [hno, Int.zero_add]; rfl, ss1.T, ss.G.at ho hlo, flat_size ho, by have := off_lt ho; omega, fun q hq => ?_⟩
    rw [flat_slots ho]
    have f2 : Fr [] H1 (upd H1 q (.lst (o.sl.map V.int))) := Fr.new hq
    have q2 : upd H1 q (.lst (o.sl.map V.int)) q = some (.lst (o.sl.map V.int)) := upd_same
    generalize upd H1 q (.lst (o.sl.map V.int)) = H2 at f2 q2
    one_sign
    refine z_ixL (f2.g0 hra1) (by rw [Int.zero_add]; exact atI_nat (ref_at ha)) ?_
    one_sign
    refine z_slL (f2.g0 a1) fun q3 H3 hq3 f3 e3 => ?_
    rw [tail_cut] at e3
    one_sign
    refine ⟨q, q3, o.sl, rfl, f3.g0 q2, e3, by omega, ?_⟩
    one_sign
    exact ⟨⟨_, rfl⟩, (f1.trans f2).trans f3⟩
  · obtain ⟨⟨v3, rfl⟩, f1⟩ := hI
    have ss1 := ss.keep f1
    have L1 := L.keep f1
    have hra1 := L1.ra
    one_sign
    rw [List.length_map, hAl]
    refine z_rng1 R.length rfl (by omega) ?_
    refine z_lcR (fun i xs H' => xs = (upto i).map V.int) (fun _ _ _ _ => rfl) ?_ ?_
    · intro L2 i xs H3 hL hi hl hxs hx f3
      have hxs : xs = (upto i).map V.int := hxs
      subst hxs
      leaf_len
      exact z_lcY hL hx f3 hl (by rw [sizeLine_eq]; omega) fun H5 _ _ _ => by
        show _ = _
        unfold upto
        rw [List.range_succ, List.map_append, List.map_append, Int.zero_add]
        rfl
    intro L2 xs H2 hL hxs hl hx f2
    have hxs : xs = (upto R.length).map V.int := hxs
    subst hxs
    have ss2 := ss1.keep f2
    have hst2 := ss2.T.st
    have hsp2 := ss2.S.sp
    one_sign
    obtain ⟨ms, m1, m2⟩ := ss2.numsP
    refine ⟨st, dx, wl, pl, _, _, least, _, kvs, ms, rfl, ss2.T, m1, fun ns q pm ps hq => ?_⟩
    have f3 : Fr [] H2 (upd H2 q (.lst (ns.map V.int))) := Fr.new hq
    have q3 : upd H2 q (.lst (ns.map V.int)) q = some (.lst (ns.map V.int)) := upd_same
    generalize upd H2 q (.lst (ns.map V.int)) = H3 at f3 q3
    have en : ns = upto R.length := sorted_eq (by rw [hRl, ← nums_upto ix]; exact pm.trans m2) ps (upto_sorted _)
    subst en
    one_sign
    refine ⟨q, L2, upto R.length, rfl, q3, f3.g0 hx, by unfold upto; rw [List.length_map, List.length_range]; omega, ?_⟩
    have f03 := (f1.trans f2).trans f3
    have ss3 := ss.keep f03
    have L3 := L.keep f03
    have hsp3 := ss3.S.sp
    have hwa3 := L3.wa
    one_sign
    have rl := ss.rl
    have hl4 := ss.hl
    refine ⟨sp, dxs, st, pr, rt, hd, al, co, rs, hs, rfl, ss3.S, by omega, by omega, fun l H4 hl4' hl0 f4 => ?_⟩
    one_sign
    refine z_newL (by show 1 ≤ sizeLine; decide) fun q7 H5 hq7 f5 e5 => ?_
    one_sign
    refine z_addL e5 (f5.g0 (f4.g0 hwa3)) (by rw [List.length_map, List.length_append, sizeLine_eq]; show 1 + (rs.length + hs.length) ≤ _; omega) fun q8 H6 hq8 f6 e6 => ?_
    one_sign
    refine ⟨l, q8, 0 :: (rs ++ hs), rfl, f6.g0 (f5.g0 hl4'), e6, by rw [List.length_cons, List.length_append]; omega, ?_⟩
    exact k H6 (((f03.trans f4).trans f5).trans f6)
theorem SS.keepD {C CS PT : Addr} {H H' : Hp} {sp dxs st dx wl pl pr rt hd : Addr} {al co least : Int} {O : List Ob} {kvs : List (Key × V)} {rs hs : List Int} (s : SS C CS PT H sp dxs st dx wl pl pr rt hd al co least O kvs rs hs) {d : Addr} {kv : List (Key × V)} (h : H d = some (.dK kv)) (n : d ≠ pl) (f : Fr [d] H H') : SS C CS PT H' sp dxs st dx wl pl pr rt hd al co least O kvs rs hs := by
  have k : ∀ b o, H b = some o → (∀ kv, o ≠ .dK kv) → H' b = some o := fun b o e hn => f.g e (nin (ne_of e h (hn kv)))
  refine ⟨⟨k _ _ s.S.sp (by intro _ z; cases z), k _ _ s.S.pr (by intro _ z; cases z), k _ _ s.S.rt (by intro _ z; cases z), k _ _ s.S.hd (by intro _ z; cases z)⟩, ⟨k _ _ s.T.st (by intro _ z; cases z), k _ _ s.T.wl (by intro _ z; cases z), f.g s.T.pl (nin n.symm)⟩, s.N, s.G, s.sz, s.nn, s.lv, s.len, s.rl, s.hl, tab_out s.tab f (fun b hb => ?_)⟩
  have e : b = d := by simpa using hb
  subst e
  exact ⟨_, h, (by intro ps z; cases z), (by intro ps z; cases z)⟩
theorem Spc.keepD {C CS PT : Addr} {H0 H H' : Hp} {sp : Addr} {X : List Addr} {O : List Ob} {rs hs : List Int} (s0 : Spc C CS PT H0 sp X O rs hs) {d : Addr} {kv : List (Key × V)} (hd : H0 d = none) (f0 : Fr [] H0 H) (h : H d = some (.dK kv)) (f : Fr [d] H H') : Spc C CS PT H' sp X O rs hs := by
  obtain ⟨dxs, st, dx, wl, pl, pr, rt, hd', al, co, least, kvs, e, s⟩ := s0
  exact ⟨dxs, st, dx, wl, pl, pr, rt, hd', al, co, least, kvs, e, (s.keep f0).keepD h (fun z => by rw [z, s.T.pl] at hd; cases hd) f⟩
theorem LR.keepD {H H' : Hp} {ra wa : Addr} {A : List Addr} {R : List (List Int)} {ws : List Int} (l : LR H ra wa A R ws) {d : Addr} {kv : List (Key × V)} (h : H d = some (.dK kv)) (f : Fr [d] H H') : LR H' ra wa A R ws := by
  have k : ∀ b xs, H b = some (.lst xs) → H' b = some (.lst xs) := fun b xs e => f.g e (nin (ne_of e h (by intro z; cases z)))
  exact ⟨k _ _ l.ra, ⟨l.rows.len, fun i a r h1 h2 => k _ _ (l.rows.it i a r h1 h2)⟩, k _ _ l.wa, l.eR, l.eW, l.lR, l.lr, l.lw⟩
def sp_law64 (K : PySem.W.Frag) (PT : Addr) : Sp := fun vs H Q _ => ∃ (a : Addr) (ns : List Int), vs = [.ref a] ∧ SqL K H a (ns.map V.int) ∧ ns.length ≤ 63 ∧ LamX.TabS H PT qLam ∧ ∀ H', Q (.bl true) H'
theorem ok_law (W : WT P K mg base) : FnOk P w K mg base CX0 9 W.f_law W.fd_law ["_law_script"] (sp_law64 K W.PT_Store_close_up) := by
  refine W.F_law.ok sc_law (fun vs H Q E h => by obtain ⟨a, ns, rfl, hs, hl, tab, k⟩ := h; rfl) (fun cdv A outer s H vs Q E hr h => ?_)
  obtain ⟨a, ns, rfl, hs, hl, tab, k⟩ := h
  have hu1 := hu_of hr
  have hu64 := hu64_of hr
  refine ⟨_, (pss_cons (ps_setLc (i := 1) (own := [("_law_cell", 2)]) (g := gName 2) (tt := tYes) rfl sc_law.nd rfl rfl (sw_true rfl rfl rfl (by decide +kernel)) (pi_list (pv 0)) (blkOk_by (N := N_law) (sc := defScope s_law) (by decide +kernel)) (fun _ _ _ _ _ => (pg_name (i := 2) sc_law.nd rfl (by first | exact Or.inl rfl | exact Or.inr rfl))) (fun _ _ _ _ _ => pts_nil) (fun _ _ _ _ _ => (pe_callTy call_intU (by rfl) W.n_int bb_int (pa_cons (pv 2) pa_nil))))
      (Evl.pss_cut (ps_while PassesOwn.never (pt_cmpR op_ltU (pe_callB call_lenU (by rfl) W.n_len bb_len (pa_cons (pv 1) pa_nil)) pe_int (by first | exact nomark _ | rfl)) (pss_one (ps_expr (pe_bm PySem.F.plainAttrs_list PySem.F.slot_list_append PySem.F.type_list_append mt_append (pv 1) (pa_cons pe_int pa_nil)))))
      (pss_cons (ps_set (i := 3) sc_law.nd rfl (by first | exact Or.inl rfl | exact Or.inr rfl) (pe_call (ok__law_rows W) (hr.mono (by decide)) rfl W.g__law_rows W.F__law_rows.kp W.b__law_rows .nil pass0 (pa_cons (pe_call (ok__law_sizes W) (hr.mono (by decide)) rfl W.g__law_sizes W.F__law_sizes.kp W.b__law_sizes .nil pass0 (pa_cons (pe_call (ok__law_number W) (hr.mono (by decide)) rfl W.g__law_number W.F__law_number.kp W.b__law_number .nil pass0 (pa_cons (pe_ix (ix_U hu1) (pv 1) pe_int (fun _ _ => rfl)) (pa_cons pe_int pa_nil))) pa_nil)) (pa_cons (pe_ix (ix_U hu1) (pv 1) pe_int (fun _ _ => rfl)) pa_nil))))
      (pss_cons (ps_set (i := 4) sc_law.nd rfl (by first | exact Or.inl rfl | exact Or.inr rfl) (pe_call (ok__law_roots W) (hr.mono (by decide)) rfl W.g__law_roots W.F__law_roots.kp W.b__law_roots .nil pass0 (pa_cons (pe_callB call_lenU (by rfl) W.n_len bb_len (pa_cons (pv 3) pa_nil)) (pa_cons (pe_ix (ix_U hu1) (pv 1) pe_int (fun _ _ => rfl)) pa_nil))))
      (pss_cons (ps_set (i := 5) sc_law.nd rfl (by first | exact Or.inl rfl | exact Or.inr rfl) (pe_call (ok__law_space W) (hr.mono (by decide)) rfl W.g__law_space W.F__law_space.kp W.b__law_space .nil pass0 (pa_cons (pv 3) (pa_cons (pv 4) pa_nil))))
      (pss_cons (ps_if (pt_cmpR op_isU (pv 5) pe_non (by first | exact nomark _ | rfl)) (pss_one (ps_ret pe_bl)) pss_nil)
      (pss_cons (ps_set (i := 6) sc_law.nd rfl (by first | exact Or.inl rfl | exact Or.inr rfl) (pe_call (ok__law_best W) (hr.mono (by decide)) rfl W.g__law_best W.F__law_best.kp W.b__law_best .nil pass0 (pa_cons (pv 3) (pa_cons (pv 4) pa_nil))))
      (pss_cons (ps_set (i := 7) sc_law.nd rfl (by first | exact Or.inl rfl | exact Or.inr rfl) (pe_call (ok_paths W) (hr.mono (by decide)) rfl W.g_paths W.F_paths.kp W.b_paths .nil pass0 (pa_cons (pv 5) pa_nil)))
      (pss_cons (ps_if (PW.pt (pw_or (pt_not (pt_truth (pe_callB call_isi (by rfl) W.n_isinstance bb_isinstance (pa_cons (pv 7) (pa_cons (pe_bt rfl W.n_dict bb_dict) pa_nil))) (by intro _; rfl))) (pw_or1 (pt_not (pt_truth (pe_call (ok__law_same W) (hr.mono (by decide)) rfl W.g__law_same W.F__law_same.kp W.b__law_same .nil pass0 (pa_cons (pe_callB (call_sortedU rfl) (by rfl) W.n_sorted bb_sorted (pa_cons (pv 7) pa_nil)) (pa_cons (pe_callB (call_sortedU rfl) (by rfl) W.n_sorted bb_sorted (pa_cons (pv 6) pa_nil)) pa_nil))) (by intro _; rfl)))))) (pss_one (ps_ret pe_bl)) pss_nil)
      (pss_cons (ps_lock (ps_for PassesOwn.never rfl (pi_keys (pv 6)) (pg_name (i := 8) sc_law.nd rfl (by first | exact Or.inl rfl | exact Or.inr rfl)) (pss_one (ps_if (PW.pt (pw_or (pt_not (pt_truth (pe_call (ok__law_path_is W) (hr.mono (by decide)) rfl W.g__law_path_is W.F__law_path_is.kp W.b__law_path_is .nil pass0 (pa_cons (pe_ix (ix_U hu1) (pv 7) (pv 8) (fun _ _ => rfl)) (pa_cons (pe_ix (ix_U hu1) (pv 6) (pv 8) (fun _ _ => rfl)) pa_nil))) (by intro _; rfl))) (pw_or1 (pt_not (pt_truth (pe_call (ok__law_told W) (hr.mono (by decide)) rfl W.g__law_told W.F__law_told.kp W.b__law_told .nil pass0 (pa_cons (pv 5) (pa_cons (pv 3) (pa_cons (pv 4) (pa_cons (pe_ix (ix_U hu1) (pv 6) (pv 8) (fun _ _ => rfl)) pa_nil))))) (by intro _; rfl)))))) (pss_one (ps_ret pe_bl)) pss_nil))))
      (pss_cons (ps_if (pt_not (pt_truth (pe_call (ok__law_same W) (hr.mono (by decide)) rfl W.g__law_same W.F__law_same.kp W.b__law_same .nil pass0 (pa_cons (pe_call (ok_garbage W) (hr.mono (by decide)) rfl W.g_garbage W.F_garbage.kp W.b_garbage .nil pass0 (pa_cons (pv 5) pa_nil)) (pa_cons (pe_lc (own := [("_law_k", 9)]) (g := gName 9)  rfl sc_law.nd (pi_range1 (by rfl) W.n_range (pa_cons (pe_callB call_lenU (by rfl) W.n_len bb_len (pa_cons (pv 3) pa_nil)) pa_nil)) (blkOk_by (N := N_law) (sc := defScope s_law) (by decide +kernel)) (fun _ _ _ _ _ => (pg_name (i := 9) sc_law.nd rfl (by first | exact Or.inl rfl | exact Or.inr rfl))) (fun _ _ _ _ _ => pts_one (pt_cmpR (op_ninUK (K := K) rfl (by exact hu1)) (pv 9) (pv 6) (by first | exact nomark _ | rfl))) (fun _ _ _ _ _ => (pv 9))) pa_nil))) (by intro _; rfl))) (pss_one (ps_ret pe_bl)) pss_nil)
      (pss_cons (ps_for PassesOwn.never rfl (pi_range2 (by rfl) W.n_range (pa_cons pe_int (pa_cons (pe_callB call_lenU (by rfl) W.n_len bb_len (pa_cons (pv 1) pa_nil)) pa_nil))) (pg_name (i := 9) sc_law.nd rfl (by first | exact Or.inl rfl | exact Or.inr rfl)) (pss_cons (ps_set (i := 10) sc_law.nd rfl (by first | exact Or.inl rfl | exact Or.inr rfl) (pe_call (ok__law_number W) (hr.mono (by decide)) rfl W.g__law_number W.F__law_number.kp W.b__law_number .nil pass0 (pa_cons (pe_ix (ix_U hu1) (pv 1) (pv 9) (fun _ _ => rfl)) (pa_cons (pv 9) pa_nil))))
      (pss_cons (ps_if (pt_not (pt_truth (pe_call (ok__law_told W) (hr.mono (by decide)) rfl W.g__law_told W.F__law_told.kp W.b__law_told .nil pass0 (pa_cons (pv 5) (pa_cons (pv 3) (pa_cons (pv 4) (pa_cons (pe_call (ok__law_drawn W) (hr.mono (by decide)) rfl W.g__law_drawn W.F__law_drawn.kp W.b__law_drawn .nil pass0 (pa_cons (pv 10) (pa_cons (pv 3) (pa_cons (pv 4) pa_nil)))) pa_nil))))) (by intro _; rfl))) (pss_one (ps_ret pe_bl)) pss_nil)
      (pss_one (ps_if (pt_not (pt_truth (pe_call (ok__law_told W) (hr.mono (by decide)) rfl W.g__law_told W.F__law_told.kp W.b__law_told .nil pass0 (pa_cons (pv 5) (pa_cons (pv 3) (pa_cons (pv 4) (pa_cons (pe_call (ok__law_drawn W) (hr.mono (by decide)) rfl W.g__law_drawn W.F__law_drawn.kp W.b__law_drawn .nil pass0 (pa_cons (pe_op op_fdivW (pv 10) pe_int) (pa_cons (pv 3) (pa_cons (pv 4) pa_nil)))) pa_nil))))) (by intro _; rfl))) (pss_one (ps_ret pe_bl)) pss_nil)))))
      (pss_cons (ps_if (pt_cmpR op_isnotU (pe_call (ok_word_at W) (hr.mono (by decide)) rfl W.g_word_at W.F_word_at.kp W.b_word_at .nil pass0 (pa_cons (pv 5) (pa_cons (pe_tup pa_nil) pa_nil))) pe_non (by first | exact nomark _ | rfl)) (pss_one (ps_ret pe_bl)) pss_nil)
      (pss_one (ps_ret (pe_call (ok__law_kept W) (hr.mono (by decide)) rfl W.g__law_kept W.F__law_kept.kp W.b__law_kept .nil pass0 (pa_cons (pv 5) (pa_cons (pv 3) (pa_cons (pv 4) pa_nil))))))))))))))))))), ?_⟩
  refine z_start (σ := [some _, none, none, none, none, none, none, none, none, none, none]) rfl ?_
  one_sign
  refine z_iterQ hs ?_
  refine z_lcQ hs (fun i xs H' => xs = (ns.take i).map V.int) (fun _ _ _ _ => rfl) (fun R i x xs H1 hR hi hlt hxl hxs hR1 f1 => ?_) (fun cl xs H1 hcl hxs hxl hR1 f1 => ?_)
  · rw [List.getElem?_map] at hi
    obtain ⟨n, hn, rfl⟩ := Option.map_eq_some_iff.mp hi
    have hxs : xs = (ns.take i).map V.int := hxs
    subst hxs
    leaf_len
    exact z_lcY hR hR1 f1 hxl (by rw [List.length_map] at hlt; rw [sizeLine_eq]; omega) fun H5 _ _ _ => by
      show _ = _
      rw [List.take_succ, hn, List.map_append]; rfl
  have hxs : xs = (ns.take (ns.map V.int).length).map V.int := hxs
  rw [List.length_map, List.take_length] at hxs
  subst hxs
  one_sign
  refine Evl.q_cut (M := fun σ H' => ∃ ns2 : List Int, σ = [some (.ref a), some (.ref cl), none, none, none, none, none, none, none, none, none] ∧ H' cl = some (.lst (ns2.map V.int)) ∧ 3 ≤ ns2.length ∧ ns2.length ≤ 66 ∧ Fr [] H H') ?_ ?_
  · refine ⟨fun m σ H' => ∃ ns2 : List Int, σ = [some (.ref a), some (.ref cl), none, none, none, none, none, none, none, none, none] ∧ H' cl = some (.lst (ns2.map V.int)) ∧ ns2.length ≤ 66 ∧ Fr [] H H' ∧ m = 3 - ns2.length, ⟨_, ns, rfl, hR1, by omega, f1, rfl⟩, ?_⟩
    rintro m σ H2 ⟨ns2, rfl, hc2, hl2, f2, rfl⟩
    one_sign
    rw [List.length_map]
    refine iteD (fun h => ?_) (fun h => ?_)
    · have h : (ns2.length : Int) < 3 := h
      refine ⟨_, fun _ _ z => z, ?_⟩
      one_sign
      refine z_append hc2 (by rw [List.length_map, sizeLine_eq]; omega) fun H3 f3 h3 n3 => ?_
      exact ⟨3 - (ns2.length + 1), by omega, ns2 ++ [7], rfl, by rw [h3, List.map_append]; rfl, by rw [List.length_append]; show ns2.length + 1 ≤ 66; omega, f2.in f3 hcl, by rw [List.length_append]; rfl⟩
    · have h : ¬ (ns2.length : Int) < 3 := h
      one_sign
      exact ⟨ns2, rfl, hc2, by omega, hl2, f2⟩
  rintro σ H2 ⟨ns2, rfl, hc2, h3, h66, f2⟩
  obtain ⟨c0, h0⟩ : ∃ c, ns2[0]? = some c := ⟨_, List.getElem?_eq_getElem (by omega)⟩
  obtain ⟨c1, h1⟩ : ∃ c, ns2[1]? = some c := ⟨_, List.getElem?_eq_getElem (by omega)⟩
  obtain ⟨c2, h2⟩ : ∃ c, ns2[2]? = some c := ⟨_, List.getElem?_eq_getElem (by omega)⟩
  one_sign
  refine z_ixL hc2 (atI_nat (j := 0) (int_at h0)) ?_
  one_sign
  refine ⟨_, _, rfl, by omega, by omega, fun x hx => ?_⟩
  one_sign
  refine ⟨_, rfl, fun za zs H3 hz1 hz2 hz3 hz0 f3 => ?_⟩
  have hc3 := f3.g0 hc2
  one_sign
  refine z_ixL hc3 (atI_nat (j := 1) (int_at h1)) ?_
  one_sign
  refine ⟨za, zs, c1, rfl, hz3, hz1, hz2, fun ra A R H4 hra L hR hev hra0 f4 => ?_⟩
  have hc4 := f4.g0 hc3
  have hRl : R.length = zs.length := by
    have := congrArg List.length hR
    rwa [List.length_map, List.length_map] at this
  have hAl := L.len
  one_sign
  refine z_ixL hc4 (atI_nat (j := 2) (int_at h2)) ?_
  one_sign
  refine ⟨A.length, c2, by rw [List.length_map]; rfl, by omega, fun wa ws H5 hwa w16 w20 wev hwa0 f5 => ?_⟩
  one_sign
  have tab5 := tab.ext fun b o e => f5.g0 (f4.g0 (f3.g0 (f2.g0 e)))
  have hlr : ∀ r ∈ R, 1 ≤ r.length ∧ r.length ≤ 20 := fun r hr => by
    obtain ⟨i, hi⟩ := List.getElem?_of_mem hr
    have e := congrArg (·[i]?) hR
    simp only [List.getElem?_map, hi] at e
    cases hz : zs[i]? with
    | none => rw [hz] at e; cases e
    | some z =>
      rw [hz] at e
      have e : r.length = z + 1 := Option.some.inj e
      have := hz2 z (List.mem_of_getElem? hz)
      omega
  refine ⟨ra, wa, A, R, ws, rfl, f5.g0 hra, L.mono f5, by omega, hlr, hwa, w16, w20, tab5, fun sp X O rs hs2 H6 S6 ews hO6 hix nX f6 => ?_⟩
  subst ews
  have L6 : LR H6 ra wa A R (rs ++ hs2) := ⟨f6.g0 (f5.g0 hra), (L.mono f5).mono f6, f6.g0 hwa, hev, wev, by omega, hlr, w16, w20⟩
  have hc6 := f6.g0 (f5.g0 hc4)
  one_sign
  refine ⟨ra, wa, A, R, _, rfl, L6, fun D F H7 hD D7 FI7 FP7 f7 => ?_⟩
  one_sign
  refine ⟨sp, X, O, rs, hs2, R, rfl, S6.keep f7, hO6, hix, fun D2 F2 H8 hD2 D28 FI8 FP8 f8 => ?_⟩
  have f68 := f7.trans f8
  have D8 := f8.g0 D7
  have FI7' := FI7.mono f8.tp
  have efd : F2.map (·.1) = F.map (·.1) := by rw [← fdP_fst, ← fdP_fst, FP8, FP7]
  have ebest : ∀ n, n ∈ F.map (·.1) ↔ Reach O (0 :: (rs ++ hs2)) n := fun n => by
    rw [← fdP_fst, FP7]
    refine best_reach hO6 hix ?_ n
    obtain ⟨dxs, st, dx, wl, pl, pr, rt, hd, al, co, least, kvs, rfl, ss⟩ := S6
    exact ss.lv
  have invF : FInv R (fdP F) := by rw [FP7]; exact lay_inv R _ _
  have ndF : (F.map (·.1)).Nodup := by rw [← fdP_fst]; exact invF.nd
  have hFl : F.length ≤ 59 := by
    have h1 := invF.len
    have h2 : (fdP F).length = F.length := List.length_map _
    omega
  one_sign
  refine z_isi0 (ClsV.ty _) (TyX.base (TyOf.dK D28)) kt_dict_dict ?_
  one_sign
  refine z_sortedD D28 (fdK_fst F2) fun ns1 q1 H9 pm1 ps1 hq1 f9 e9 => ?_
  one_sign
  refine z_sortedD (f9.g0 D8) (fdK_fst F) fun ns3 q3 H10 pm3 ps3 hq3 f10 e10 => ?_
  have en : ns1 = ns3 := sorted_eq (pm1.trans (by rw [efd]; exact pm3.symm)) ps1 ps3
  subst en
  one_sign
  refine ⟨q1, q3, ns1, rfl, f10.g0 e9, e10, by rw [pm3.length_eq, List.length_map]; omega, ?_⟩
  one_sign
  have f810 := f9.trans f10
  have f610 := f68.trans f810
  have D10 := f810.g0 D8
  have D210 := f810.g0 D28
  have FI10 := FI7'.mono f810.tp
  have FI210 := FI8.mono f810.tp
  have S10 := S6.keep f610
  have L10 := L6.keep f610
  have nDD : D2 ≠ D := fun e => by rw [e, D7] at hD2; cases hD2
  refine z_forK (td := tVar 6) [] (by simp) (fun H' R h => ⟨_, rfl, h⟩) D10 (fun i σ H' => ∃ v8, σ = [some (.ref a), some (.ref cl), none, some (.ref ra), some (.ref wa), some (.ref sp), some (.ref D), some (.ref D2), v8, none, none]) (fun od HF L => ⟨_, rfl⟩) (fun od HF i kk v σ H11 Lk hk hi hI f11 hd11 => ?_) (fun σ H11 H12 hI f12 d12 f1012 => ?_)
  · obtain ⟨v8, rfl⟩ := hI
    unfold fdK at hk
    rw [List.getElem?_map] at hk
    obtain ⟨z, hz, e⟩ := Option.map_eq_some_iff.mp hk
    cases e
    have mz := List.mem_of_getElem? hz
    have hz2 : (fdP F2)[i]? = some (z.1, z.2.2) := by rw [FP8, ← FP7]; unfold fdP; rw [List.getElem?_map, hz]; rfl
    unfold fdP at hz2
    rw [List.getElem?_map] at hz2
    obtain ⟨z2, hz2, e2⟩ := Option.map_eq_some_iff.mp hz2
    have e21 : z2.1 = z.1 := (Prod.mk.inj e2).1
    have e22 : z2.2.2 = z.2.2 := (Prod.mk.inj e2).2
    have mz2 := List.mem_of_getElem? hz2
    have zl : z.2.2.length ≤ 1000 := by
      have mb : (z.1, z.2.2) ∈ best R (0 :: (rs ++ hs2)) := by rw [← FP7]; exact List.mem_map.mpr ⟨z, mz, rfl⟩
      have h := (lay_len R (0 :: (rs ++ hs2)) (R.length + 1)).2 _ mb
      have h : z.2.2.length ≤ R.length + 1 := h
      omega
    have fD : Fr [D] H10 H11 := Lk.f.trans (f11.mono (by simp))
    have p1 := fD.g (FI10 z mz) (nin (ne_of (FI10 z mz) D10 (by intro z; cases z)))
    have p2 := fD.g (FI210 z2 mz2) (nin (ne_of (FI210 z2 mz2) D10 (by intro z; cases z)))
    rw [e22] at p2
    have D211 := fD.g D210 (nin nDD)
    show gName 8 (V.int z.1) _ _ _
    one_sign
    refine z_ixD D211 (by rw [← e21]; exact fdK_val (by rw [efd]; exact ndF) mz2) ?_
    one_sign
    refine z_ixDf hd11 (fdK_val ndF mz) ?_
    one_sign
    refine ⟨z2.2.1, z.2.1, z.2.2, rfl, p2, p1, zl, ?_⟩
    one_sign
    refine z_ixDf hd11 (fdK_val ndF mz) ?_
    one_sign
    refine ⟨sp, ra, wa, z.2.1, X, O, A, rs, hs2, R, z.2.2, rfl, S6.keepD hD f610 D10 fD, hO6, hix, L10.keepD D10 fD, p1, zl, fun H12 f12 => ?_⟩
    one_sign
    exact ⟨⟨_, rfl⟩, f11.trans f12⟩
  obtain ⟨v8, rfl⟩ := hI
  have f612 := f610.trans f1012
  have S12 := S6.keep f612
  have L12 := L6.keep f612
  have D12 := d12
  obtain ⟨dxs, st, dx, wl, pl, pr, rt, hd, al, co, least, kvs, rfl, ss12⟩ := S12
  one_sign
  refine ⟨sp, dxs, st, pr, rt, hd, al, co, rs, hs2, dx, wl, pl, _, _, least, O, kvs, rfl, ss12.S, ss12.T, ss12.G, fun o ho => Nat.le_trans (ss12.sz o ho) (by decide), by have := ss12.len; omega, by have := ss12.rl; omega, by have := ss12.hl; omega, fun r2 H13 L4 r7 hr7 ps4 nn4 mem4 len4 f13 => ?_⟩
  have ra13 := f13.g0 L12.ra
  have D13 := f13.g0 D12
  one_sign
  rw [List.length_map, hAl]
  refine z_rng1 R.length rfl (by omega) ?_
  refine z_lcR (fun i xs H' => xs = ((upto i).filter fun n => decide (n ∉ F.map (·.1))).map V.int) (fun _ _ _ _ => rfl) ?_ ?_
  · intro L2 i xs H14 hL hi hl hxs hx f14
    have hxs : xs = ((upto i).filter fun n => decide (n ∉ F.map (·.1))).map V.int := hxs
    subst hxs
    have D14 := f14.g0 D13
    have eu : upto (i + 1) = upto i ++ [(i : Int)] := by unfold upto; rw [List.range_succ, List.map_append]; rfl
    leaf_len
    rw [fdK_some]
    rw [Int.zero_add]
    by_cases hm : (i : Int) ∈ F.map (·.1)
    · rw [decide_eq_true hm]
      one_sign
      exact z_lcN hx f14 hl (by
        show _ = _
        rw [eu, List.filter_append]
        simp [hm])
    · rw [decide_eq_false hm]
      one_sign
      exact z_lcY hL hx f14 hl (by rw [sizeLine_eq]; omega) fun H5 _ _ _ => by
        show _ = _
        rw [eu, List.filter_append, List.map_append]
        simp [hm]
  intro L2 xs H14 hL hxs hl2 hx14 f14
  have hxs : xs = ((upto R.length).filter fun n => decide (n ∉ F.map (·.1))).map V.int := hxs
  subst hxs
  have hRO : R.length = O.length := by rw [← hO6, List.length_map]
  have eL : L4 = (upto R.length).filter fun n => decide (n ∉ F.map (·.1)) := by
    have ps := (upto_sorted R.length).sublist (List.filter_sublist (p := fun n => decide (n ∉ F.map (·.1))))
    have nd : (upto R.length).Nodup := by rw [hRO, ← nums_upto hix]; exact (by
      have := ss12.G.nums
      rwa [List.filter_eq_self.mpr ss12.lv] at this)
    refine sorted_eq (perm_of nn4 (nd.sublist List.filter_sublist) fun n => ?_) ps4 ps
    rw [mem4, List.mem_filter, decide_eq_true_iff, ebest n, hix.live ss12.lv n, hRO]
    unfold upto
    rw [List.mem_map]
    constructor
    · rintro ⟨h1, h2⟩
      exact ⟨⟨n.toNat, List.mem_range.mpr (by omega), by omega⟩, h2⟩
    · rintro ⟨⟨i, h1, rfl⟩, h2⟩
      have := List.mem_range.mp h1
      exact ⟨by omega, h2⟩
  rw [← eL] at hx14
  one_sign
  refine ⟨r2, L2, L4, rfl, f14.g0 r7, hx14, by omega, ?_⟩
  have f614 := (f612.trans f13).trans f14
  have hc14 := f614.g0 hc6
  one_sign
  rw [List.length_map]
  refine z_rng2 (ns2.length - 3) (by omega) ⟨by omega, by omega, by omega, by omega⟩ ?_
  refine for_range (lo := 3) (n := ns2.length - 3) (fun i σ H' => (∃ (v9 v10 : Option V), σ = [some (.ref a), some (.ref cl), none, some (.ref ra), some (.ref wa), some (.ref sp), some (.ref D), some (.ref D2), v8, v9, v10]) ∧ Fr [] H6 H')
    ⟨⟨_, _, rfl⟩, f614⟩ (fun i σ H15 hi hI => ?_) (fun σ H15 hI => ?_)
  · obtain ⟨⟨v9, v10, rfl⟩, f15⟩ := hI
    obtain ⟨c, hc⟩ : ∃ c, ns2[3 + i]? = some c := ⟨_, List.getElem?_eq_getElem (by omega)⟩
    one_sign
    refine z_ixL (f15.g0 hc6) (by rw [show (3 : Int) + (i : Int) = ((3 + i : Nat) : Int) by omega]; exact atI_nat (int_at hc)) ?_
    one_sign
    refine ⟨_, _, rfl, by omega, by omega, fun y hy => ?_⟩
    one_sign
    refine ⟨ra, wa, A, R, _, y, rfl, L6.keep f15, hy, fun t p H16 ht hp f16 => ?_⟩
    one_sign
    have f16' := f15.trans f16
    refine ⟨sp, ra, wa, t, _, O, A, rs, hs2, R, p, rfl, S6.keep f16', hO6, hix, L6.keep f16', ht, by omega, fun H17 f17 => ?_⟩
    have f17' := f16'.trans f17
    one_sign
    refine ⟨ra, wa, A, R, _, y / 1000003, rfl, L6.keep f17', by omega, fun t2 p2 H18 ht2 hp2 f18 => ?_⟩
    one_sign
    have f18' := f17'.trans f18
    refine ⟨sp, ra, wa, t2, _, O, A, rs, hs2, R, p2, rfl, S6.keep f18', hO6, hix, L6.keep f18', ht2, by omega, fun H19 f19 => ?_⟩
    one_sign
    exact ⟨⟨_, _, rfl⟩, f18'.trans f19⟩
  · obtain ⟨⟨v9, v10, rfl⟩, f15⟩ := hI
    one_sign
    refine z_newL (by show 0 ≤ sizeLine; decide) fun t H16 ht f16 t16 => ?_
    one_sign
    have f16' := f15.trans f16
    refine ⟨sp, t, _, O, rs, hs2, R, [], rfl, S6.keep f16', hO6, hix, t16, by simp, fun H17 f17 => ?_⟩
    rw [show optV (walkW R (0 :: (rs ++ hs2)) []) = V.non from rfl]
    one_sign
    have f17' := f16'.trans f17
    exact ⟨sp, ra, wa, _, O, A, rs, hs2, R, rfl, S6.keep f17', hO6, hix, L6.keep f17', fun H' _ => k H'⟩
end

end LX
namespace LX
open PySem PySem.Spec PyProof.Rows L2 NdefX

theorem all_mk {l : PySem.W.OpenLaw} {w : World} {K : PySem.W.Frag} {mg : Str → Option Value} {fa : Addr} {h : Heap} (W : Wd l.prog K mg) (hfa : mg "law" = some (.ref fa)) (KX : K.In h) (hP : h.get? W.PT_Store_close_up = some { cls := .none, data := .fields #[] }) :
    LamX.LawAtS l w K CX0 9 63 "_law_script" mg fa h := by
  have e := hfa.symm.trans W.g_law
  cases e
  obtain ⟨oc, od, kV, doc, pm, an, cdv, ct, osl, e, _, _⟩ := W.F_law.ex
  refine ⟨W.fd_law, [(W.cA_Store_close_up, W.PT_Store_close_up)], sp_law64 K W.PT_Store_close_up, fun p hp => ?_, fun p hp => ?_, fun p hp => ?_, fun s v => by rw [e]; exact .of_eq rfl, fun H a ns hl _ hT hS => ⟨a, ns, rfl, hS, hl, LamX.TabS.nil (hT _ (List.mem_singleton.mpr rfl)), fun _ => rfl⟩, fun base _ _ hTB => ok_law ⟨W, hTB _ (List.mem_singleton.mpr rfl)⟩⟩
  · cases List.mem_singleton.mp hp; exact hP
  · cases List.mem_singleton.mp hp; exact W.np_Store_close_up
  · cases List.mem_singleton.mp hp; exact PySem.W.codeHd_of_K KX W.hd_Store_close_up
theorem walk {l : PySem.W.OpenLaw} {q : Program} {loose : List Str} {XP : (Str → Option Value) → Heap → Prop} {YP : World → Heap → Prop} {d : DefRec} {K : Params → PySem.W.Frag} (hn : l.most = some 63) (hdf : d.params.defaults = [])
    (hY : ∀ (w : World) (h : Heap), YP w h → (K w.params).In h)
    (F : ∀ (w : World) (mg : Str → Option Value) (fa : Addr) (h : Heap), YP w h → (K w.params).In h → h.Ns mainGlobals mg → mg d.name = some (.ref fa) → LamX.LawAtS l w (K w.params) CX0 9 63 "_law_script" mg fa h) :
    PySem.W.WalkO q loose XP YP l.row.toRowW d [] (fun f vs => PySem.call f vs) :=
  LamX.walk_ofTs (n := 63) (k := 9) (x := "_law_script") (CX := fun _ => CX0) hn (by decide) hdf ⟨rfl, by decide, by decide⟩ hY F fun _ _ _ _ _ z => z

end LX

open PySem PySem.W PyProof.Rows
set_option maxRecDepth 100000 in
set_option maxHeartbeats 0 in
theorem PySem.Challenge.cw_saggar_k64_best_paths_holds : PySem.Challenge.rw_saggar_k64_best_paths.Holds := by
  w_on; o_law; k_head; (case hw => w_witness2)
  k_fill
  refine LX.walk (l := PySem.Challenge.rw_saggar_k64_best_paths) rfl rfl (fun w h Y => PySem.W.km_in_of Y) ?F
  case F =>
    intro w mg fa h Y KX G hmg
    refine' LX.all_mk (l := PySem.Challenge.rw_saggar_k64_best_paths) (LX.mkW KX G ?z_bool ?z_dict ?z_int ?z_isinstance ?z_len ?z_list ?z_min ?z_range ?z_sorted ?z_tuple ?c_NIL ?c_HEADER ?c_ROOTS ?cl_Store ?pg_Store ?hd_Store ?po_Store ?sa_Store ?mk_Store ?kp_Store ?na_Store_room ?na_Store_entries ?na_Store_words ?na_Store__places ?na_Store__least ?cl_Space ?pg_Space ?hd_Space ?po_Space ?sa_Space ?mk_Space ?kp_Space ?na_Space_store ?na_Space_pressure ?na_Space_always ?na_Space_allocations ?na_Space_collections ?na_Space__roots ?na_Space__held ?na_Space__saved ?a_is_ref ?l_is_ref ?c_is_ref ?k_is_ref ?a_ref_of ?l_ref_of ?c_ref_of ?k_ref_of ?a_reached ?l_reached ?c_reached ?k_reached ?a_collect ?l_collect ?c_collect ?k_collect ?a_object_of ?l_object_of ?c_object_of ?k_object_of ?a_row_of ?l_row_of ?c_row_of ?k_row_of ?a_word_at ?l_word_at ?c_word_at ?k_word_at ?a_paths ?l_paths ?c_paths ?k_paths ?a_garbage ?l_garbage ?c_garbage ?k_garbage ?a_Store___init__ ?l_Store___init__ ?c_Store___init__ ?k_Store___init__ ?fn_Store___init__ ?a_Store_exists ?l_Store_exists ?c_Store_exists ?k_Store_exists ?fn_Store_exists ?a_Store_numbers ?l_Store_numbers ?c_Store_numbers ?k_Store_numbers ?fn_Store_numbers ?a_Store_free_number ?l_Store_free_number ?c_Store_free_number ?k_Store_free_number ?fn_Store_free_number ?a_Store_allocate ?l_Store_allocate ?c_Store_allocate ?k_Store_allocate ?fn_Store_allocate ?a_Store_size ?l_Store_size ?c_Store_size ?k_Store_size ?fn_Store_size ?a_Store_kind ?l_Store_kind ?c_Store_kind ?k_Store_kind ?fn_Store_kind ?a_Store_put ?l_Store_put ?c_Store_put ?k_Store_put ?fn_Store_put ?a_Store_slots ?l_Store_slots ?c_Store_slots ?k_Store_slots ?fn_Store_slots ?a_Store_drop ?l_Store_drop ?c_Store_drop ?k_Store_drop ?fn_Store_drop ?a_Store_close_up ?l_Store_close_up ?c_Store_close_up ?k_Store_close_up ?x1_Store_close_up ?x2_Store_close_up ?x3_Store_close_up ?x4_Store_close_up ?fn_Store_close_up ?a_Store_exchange ?l_Store_exchange ?c_Store_exchange ?k_Store_exchange ?fn_Store_exchange ?a_Space___init__ ?l_Space___init__ ?c_Space___init__ ?k_Space___init__ ?fn_Space___init__ ?a_Space_set_root ?l_Space_set_root ?c_Space_set_root ?k_Space_set_root ?fn_Space_set_root ?a_Space_hold ?l_Space_hold ?c_Space_hold ?k_Space_hold ?fn_Space_hold ?a_Space_all_roots ?l_Space_all_roots ?c_Space_all_roots ?k_Space_all_roots ?fn_Space_all_roots ?a_Space_collect ?l_Space_collect ?c_Space_collect ?k_Space_collect ?fn_Space_collect ?a_Space_collect_with ?l_Space_collect_with ?c_Space_collect_with ?k_Space_collect_with ?fn_Space_collect_with ?a_Space_new ?l_Space_new ?c_Space_new ?k_Space_new ?fn_Space_new ?a_Space_fitted ?l_Space_fitted ?c_Space_fitted ?k_Space_fitted ?fn_Space_fitted ?a__law_number ?l__law_number ?c__law_number ?k__law_number ?a__law_word ?l__law_word ?c__law_word ?k__law_word ?a__law_is ?l__law_is ?c__law_is ?k__law_is ?a__law_same ?l__law_same ?c__law_same ?k__law_same ?a__law_sizes ?l__law_sizes ?c__law_sizes ?k__law_sizes ?a__law_rows ?l__law_rows ?c__law_rows ?k__law_rows ?a__law_roots ?l__law_roots ?c__law_roots ?k__law_roots ?a__law_space ?l__law_space ?c__law_space ?k__law_space ?a__law_walk ?l__law_walk ?c__law_walk ?k__law_walk ?a__law_extended ?l__law_extended ?c__law_extended ?k__law_extended ?a__law_best ?l__law_best ?c__law_best ?k__law_best ?a__law_path_is ?l__law_path_is ?c__law_path_is ?k__law_path_is ?a__law_told ?l__law_told ?c__law_told ?k__law_told ?a__law_drawn ?l__law_drawn ?c__law_drawn ?k__law_drawn ?a__law_kept ?l__law_kept ?c__law_kept ?k__law_kept ?a_law ?l_law ?c_law ?k_law ?al_collect_collecting) hmg KX ?hP
    (case z_bool => first | k_is | ks_is | rfl | decide +kernel)
    (case z_dict => first | k_is | ks_is | rfl | decide +kernel)
    (case z_int => first | k_is | ks_is | rfl | decide +kernel)
    (case z_isinstance => first | k_is | ks_is | rfl | decide +kernel)
    (case z_len => first | k_is | ks_is | rfl | decide +kernel)
    (case z_list => first | k_is | ks_is | rfl | decide +kernel)
    (case z_min => first | k_is | ks_is | rfl | decide +kernel)
    (case z_range => first | k_is | ks_is | rfl | decide +kernel)
    (case z_sorted => first | k_is | ks_is | rfl | decide +kernel)
    (case z_tuple => first | k_is | ks_is | rfl | decide +kernel)
    (case c_NIL => first | k_is | ks_is | rfl | decide +kernel)
    (case c_HEADER => first | k_is | ks_is | rfl | decide +kernel)
    (case c_ROOTS => first | k_is | ks_is | rfl | decide +kernel)
    (case cl_Store => first | k_is | ks_is | rfl | decide +kernel)
    (case pg_Store => first | k_is | ks_is | rfl | decide +kernel)
    (case hd_Store => first | k_is | ks_is | rfl | decide +kernel)
    (case po_Store => first | k_is | ks_is | rfl | decide +kernel)
    (case sa_Store => first | k_is | ks_is | rfl | decide +kernel)
    (case mk_Store => first | k_is | ks_is | rfl | decide +kernel)
    (case kp_Store => first | k_is | ks_is | rfl | decide +kernel)
    (case na_Store_room => first | k_is | ks_is | rfl | decide +kernel)
    (case na_Store_entries => first | k_is | ks_is | rfl | decide +kernel)
    (case na_Store_words => first | k_is | ks_is | rfl | decide +kernel)
    (case na_Store__places => first | k_is | ks_is | rfl | decide +kernel)
    (case na_Store__least => first | k_is | ks_is | rfl | decide +kernel)
    (case cl_Space => first | k_is | ks_is | rfl | decide +kernel)
    (case pg_Space => first | k_is | ks_is | rfl | decide +kernel)
    (case hd_Space => first | k_is | ks_is | rfl | decide +kernel)
    (case po_Space => first | k_is | ks_is | rfl | decide +kernel)
    (case sa_Space => first | k_is | ks_is | rfl | decide +kernel)
    (case mk_Space => first | k_is | ks_is | rfl | decide +kernel)
    (case kp_Space => first | k_is | ks_is | rfl | decide +kernel)
    (case na_Space_store => first | k_is | ks_is | rfl | decide +kernel)
    (case na_Space_pressure => first | k_is | ks_is | rfl | decide +kernel)
    (case na_Space_always => first | k_is | ks_is | rfl | decide +kernel)
    (case na_Space_allocations => first | k_is | ks_is | rfl | decide +kernel)
    (case na_Space_collections => first | k_is | ks_is | rfl | decide +kernel)
    (case na_Space__roots => first | k_is | ks_is | rfl | decide +kernel)
    (case na_Space__held => first | k_is | ks_is | rfl | decide +kernel)
    (case na_Space__saved => first | k_is | ks_is | rfl | decide +kernel)
    (case a_is_ref => first | k_is | ks_is | rfl | decide +kernel)
    (case l_is_ref => first | k_is | ks_is | rfl | decide +kernel)
    (case c_is_ref => first | k_is | ks_is | rfl | decide +kernel)
    (case k_is_ref => first | k_is | ks_is | rfl | decide +kernel)
    (case a_ref_of => first | k_is | ks_is | rfl | decide +kernel)
    (case l_ref_of => first | k_is | ks_is | rfl | decide +kernel)
    (case c_ref_of => first | k_is | ks_is | rfl | decide +kernel)
    (case k_ref_of => first | k_is | ks_is | rfl | decide +kernel)
    (case a_reached => first | k_is | ks_is | rfl | decide +kernel)
    (case l_reached => first | k_is | ks_is | rfl | decide +kernel)
    (case c_reached => first | k_is | ks_is | rfl | decide +kernel)
    (case k_reached => first | k_is | ks_is | rfl | decide +kernel)
    (case a_collect => first | k_is | ks_is | rfl | decide +kernel)
    (case l_collect => first | k_is | ks_is | rfl | decide +kernel)
    (case c_collect => first | k_is | ks_is | rfl | decide +kernel)
    (case k_collect => first | k_is | ks_is | rfl | decide +kernel)
    (case a_object_of => first | k_is | ks_is | rfl | decide +kernel)
    (case l_object_of => first | k_is | ks_is | rfl | decide +kernel)
    (case c_object_of => first | k_is | ks_is | rfl | decide +kernel)
    (case k_object_of => first | k_is | ks_is | rfl | decide +kernel)
    (case a_row_of => first | k_is | ks_is | rfl | decide +kernel)
    (case l_row_of => first | k_is | ks_is | rfl | decide +kernel)
    (case c_row_of => first | k_is | ks_is | rfl | decide +kernel)
    (case k_row_of => first | k_is | ks_is | rfl | decide +kernel)
    (case a_word_at => first | k_is | ks_is | rfl | decide +kernel)
    (case l_word_at => first | k_is | ks_is | rfl | decide +kernel)
    (case c_word_at => first | k_is | ks_is | rfl | decide +kernel)
    (case k_word_at => first | k_is | ks_is | rfl | decide +kernel)
    (case a_paths => first | k_is | ks_is | rfl | decide +kernel)
    (case l_paths => first | k_is | ks_is | rfl | decide +kernel)
    (case c_paths => first | k_is | ks_is | rfl | decide +kernel)
    (case k_paths => first | k_is | ks_is | rfl | decide +kernel)
    (case a_garbage => first | k_is | ks_is | rfl | decide +kernel)
    (case l_garbage => first | k_is | ks_is | rfl | decide +kernel)
    (case c_garbage => first | k_is | ks_is | rfl | decide +kernel)
    (case k_garbage => first | k_is | ks_is | rfl | decide +kernel)
    (case a_Store___init__ => first | k_is | ks_is | rfl | decide +kernel)
    (case l_Store___init__ => first | k_is | ks_is | rfl | decide +kernel)
    (case c_Store___init__ => first | k_is | ks_is | rfl | decide +kernel)
    (case k_Store___init__ => first | k_is | ks_is | rfl | decide +kernel)
    (case fn_Store___init__ => first | k_is | ks_is | rfl | decide +kernel)
    (case a_Store_exists => first | k_is | ks_is | rfl | decide +kernel)
    (case l_Store_exists => first | k_is | ks_is | rfl | decide +kernel)
    (case c_Store_exists => first | k_is | ks_is | rfl | decide +kernel)
    (case k_Store_exists => first | k_is | ks_is | rfl | decide +kernel)
    (case fn_Store_exists => first | k_is | ks_is | rfl | decide +kernel)
    (case a_Store_numbers => first | k_is | ks_is | rfl | decide +kernel)
    (case l_Store_numbers => first | k_is | ks_is | rfl | decide +kernel)
    (case c_Store_numbers => first | k_is | ks_is | rfl | decide +kernel)
    (case k_Store_numbers => first | k_is | ks_is | rfl | decide +kernel)
    (case fn_Store_numbers => first | k_is | ks_is | rfl | decide +kernel)
    (case a_Store_free_number => first | k_is | ks_is | rfl | decide +kernel)
    (case l_Store_free_number => first | k_is | ks_is | rfl | decide +kernel)
    (case c_Store_free_number => first | k_is | ks_is | rfl | decide +kernel)
    (case k_Store_free_number => first | k_is | ks_is | rfl | decide +kernel)
    (case fn_Store_free_number => first | k_is | ks_is | rfl | decide +kernel)
    (case a_Store_allocate => first | k_is | ks_is | rfl | decide +kernel)
    (case l_Store_allocate => first | k_is | ks_is | rfl | decide +kernel)
    (case c_Store_allocate => first | k_is | ks_is | rfl | decide +kernel)
    (case k_Store_allocate => first | k_is | ks_is | rfl | decide +kernel)
    (case fn_Store_allocate => first | k_is | ks_is | rfl | decide +kernel)
    (case a_Store_size => first | k_is | ks_is | rfl | decide +kernel)
    (case l_Store_size => first | k_is | ks_is | rfl | decide +kernel)
    (case c_Store_size => first | k_is | ks_is | rfl | decide +kernel)
    (case k_Store_size => first | k_is | ks_is | rfl | decide +kernel)
    (case fn_Store_size => first | k_is | ks_is | rfl | decide +kernel)
    (case a_Store_kind => first | k_is | ks_is | rfl | decide +kernel)
    (case l_Store_kind => first | k_is | ks_is | rfl | decide +kernel)
    (case c_Store_kind => first | k_is | ks_is | rfl | decide +kernel)
    (case k_Store_kind => first | k_is | ks_is | rfl | decide +kernel)
    (case fn_Store_kind => first | k_is | ks_is | rfl | decide +kernel)
    (case a_Store_put => first | k_is | ks_is | rfl | decide +kernel)
    (case l_Store_put => first | k_is | ks_is | rfl | decide +kernel)
    (case c_Store_put => first | k_is | ks_is | rfl | decide +kernel)
    (case k_Store_put => first | k_is | ks_is | rfl | decide +kernel)
    (case fn_Store_put => first | k_is | ks_is | rfl | decide +kernel)
    (case a_Store_slots => first | k_is | ks_is | rfl | decide +kernel)
    (case l_Store_slots => first | k_is | ks_is | rfl | decide +kernel)
    (case c_Store_slots => first | k_is | ks_is | rfl | decide +kernel)
    (case k_Store_slots => first | k_is | ks_is | rfl | decide +kernel)
    (case fn_Store_slots => first | k_is | ks_is | rfl | decide +kernel)
    (case a_Store_drop => first | k_is | ks_is | rfl | decide +kernel)
    (case l_Store_drop => first | k_is | ks_is | rfl | decide +kernel)
    (case c_Store_drop => first | k_is | ks_is | rfl | decide +kernel)
    (case k_Store_drop => first | k_is | ks_is | rfl | decide +kernel)
    (case fn_Store_drop => first | k_is | ks_is | rfl | decide +kernel)
    (case a_Store_close_up => first | k_is | ks_is | rfl | decide +kernel)
    (case l_Store_close_up => first | k_is | ks_is | rfl | decide +kernel)
    (case c_Store_close_up => first | k_is | ks_is | rfl | decide +kernel)
    (case k_Store_close_up => first | k_is | ks_is | rfl | decide +kernel)
    (case x1_Store_close_up => first | k_is | ks_is | rfl | decide +kernel)
    (case x2_Store_close_up => first | k_is | ks_is | rfl | decide +kernel)
    (case x3_Store_close_up => first | k_is | ks_is | rfl | decide +kernel)
    (case x4_Store_close_up => first | k_is | ks_is | rfl | decide +kernel)
    (case fn_Store_close_up => first | k_is | ks_is | rfl | decide +kernel)
    (case a_Store_exchange => first | k_is | ks_is | rfl | decide +kernel)
    (case l_Store_exchange => first | k_is | ks_is | rfl | decide +kernel)
    (case c_Store_exchange => first | k_is | ks_is | rfl | decide +kernel)
    (case k_Store_exchange => first | k_is | ks_is | rfl | decide +kernel)
    (case fn_Store_exchange => first | k_is | ks_is | rfl | decide +kernel)
    (case a_Space___init__ => first | k_is | ks_is | rfl | decide +kernel)
    (case l_Space___init__ => first | k_is | ks_is | rfl | decide +kernel)
    (case c_Space___init__ => first | k_is | ks_is | rfl | decide +kernel)
    (case k_Space___init__ => first | k_is | ks_is | rfl | decide +kernel)
    (case fn_Space___init__ => first | k_is | ks_is | rfl | decide +kernel)
    (case a_Space_set_root => first | k_is | ks_is | rfl | decide +kernel)
    (case l_Space_set_root => first | k_is | ks_is | rfl | decide +kernel)
    (case c_Space_set_root => first | k_is | ks_is | rfl | decide +kernel)
    (case k_Space_set_root => first | k_is | ks_is | rfl | decide +kernel)
    (case fn_Space_set_root => first | k_is | ks_is | rfl | decide +kernel)
    (case a_Space_hold => first | k_is | ks_is | rfl | decide +kernel)
    (case l_Space_hold => first | k_is | ks_is | rfl | decide +kernel)
    (case c_Space_hold => first | k_is | ks_is | rfl | decide +kernel)
    (case k_Space_hold => first | k_is | ks_is | rfl | decide +kernel)
    (case fn_Space_hold => first | k_is | ks_is | rfl | decide +kernel)
    (case a_Space_all_roots => first | k_is | ks_is | rfl | decide +kernel)
    (case l_Space_all_roots => first | k_is | ks_is | rfl | decide +kernel)
    (case c_Space_all_roots => first | k_is | ks_is | rfl | decide +kernel)
    (case k_Space_all_roots => first | k_is | ks_is | rfl | decide +kernel)
    (case fn_Space_all_roots => first | k_is | ks_is | rfl | decide +kernel)
    (case a_Space_collect => first | k_is | ks_is | rfl | decide +kernel)
    (case l_Space_collect => first | k_is | ks_is | rfl | decide +kernel)
    (case c_Space_collect => first | k_is | ks_is | rfl | decide +kernel)
    (case k_Space_collect => first | k_is | ks_is | rfl | decide +kernel)
    (case fn_Space_collect => first | k_is | ks_is | rfl | decide +kernel)
    (case a_Space_collect_with => first | k_is | ks_is | rfl | decide +kernel)
    (case l_Space_collect_with => first | k_is | ks_is | rfl | decide +kernel)
    (case c_Space_collect_with => first | k_is | ks_is | rfl | decide +kernel)
    (case k_Space_collect_with => first | k_is | ks_is | rfl | decide +kernel)
    (case fn_Space_collect_with => first | k_is | ks_is | rfl | decide +kernel)
    (case a_Space_new => first | k_is | ks_is | rfl | decide +kernel)
    (case l_Space_new => first | k_is | ks_is | rfl | decide +kernel)
    (case c_Space_new => first | k_is | ks_is | rfl | decide +kernel)
    (case k_Space_new => first | k_is | ks_is | rfl | decide +kernel)
    (case fn_Space_new => first | k_is | ks_is | rfl | decide +kernel)
    (case a_Space_fitted => first | k_is | ks_is | rfl | decide +kernel)
    (case l_Space_fitted => first | k_is | ks_is | rfl | decide +kernel)
    (case c_Space_fitted => first | k_is | ks_is | rfl | decide +kernel)
    (case k_Space_fitted => first | k_is | ks_is | rfl | decide +kernel)
    (case fn_Space_fitted => first | k_is | ks_is | rfl | decide +kernel)
    (case a__law_number => first | k_is | ks_is | rfl | decide +kernel)
    (case l__law_number => first | k_is | ks_is | rfl | decide +kernel)
    (case c__law_number => first | k_is | ks_is | rfl | decide +kernel)
    (case k__law_number => first | k_is | ks_is | rfl | decide +kernel)
    (case a__law_word => first | k_is | ks_is | rfl | decide +kernel)
    (case l__law_word => first | k_is | ks_is | rfl | decide +kernel)
    (case c__law_word => first | k_is | ks_is | rfl | decide +kernel)
    (case k__law_word => first | k_is | ks_is | rfl | decide +kernel)
    (case a__law_is => first | k_is | ks_is | rfl | decide +kernel)
    (case l__law_is => first | k_is | ks_is | rfl | decide +kernel)
    (case c__law_is => first | k_is | ks_is | rfl | decide +kernel)
    (case k__law_is => first | k_is | ks_is | rfl | decide +kernel)
    (case a__law_same => first | k_is | ks_is | rfl | decide +kernel)
    (case l__law_same => first | k_is | ks_is | rfl | decide +kernel)
    (case c__law_same => first | k_is | ks_is | rfl | decide +kernel)
    (case k__law_same => first | k_is | ks_is | rfl | decide +kernel)
    (case a__law_sizes => first | k_is | ks_is | rfl | decide +kernel)
    (case l__law_sizes => first | k_is | ks_is | rfl | decide +kernel)
    (case c__law_sizes => first | k_is | ks_is | rfl | decide +kernel)
    (case k__law_sizes => first | k_is | ks_is | rfl | decide +kernel)
    (case a__law_rows => first | k_is | ks_is | rfl | decide +kernel)
    (case l__law_rows => first | k_is | ks_is | rfl | decide +kernel)
    (case c__law_rows => first | k_is | ks_is | rfl | decide +kernel)
    (case k__law_rows => first | k_is | ks_is | rfl | decide +kernel)
    (case a__law_roots => first | k_is | ks_is | rfl | decide +kernel)
    (case l__law_roots => first | k_is | ks_is | rfl | decide +kernel)
    (case c__law_roots => first | k_is | ks_is | rfl | decide +kernel)
    (case k__law_roots => first | k_is | ks_is | rfl | decide +kernel)
    (case a__law_space => first | k_is | ks_is | rfl | decide +kernel)
    (case l__law_space => first | k_is | ks_is | rfl | decide +kernel)
    (case c__law_space => first | k_is | ks_is | rfl | decide +kernel)
    (case k__law_space => first | k_is | ks_is | rfl | decide +kernel)
    (case a__law_walk => first | k_is | ks_is | rfl | decide +kernel)
    (case l__law_walk => first | k_is | ks_is | rfl | decide +kernel)
    (case c__law_walk => first | k_is | ks_is | rfl | decide +kernel)
    (case k__law_walk => first | k_is | ks_is | rfl | decide +kernel)
    (case a__law_extended => first | k_is | ks_is | rfl | decide +kernel)
    (case l__law_extended => first | k_is | ks_is | rfl | decide +kernel)
    (case c__law_extended => first | k_is | ks_is | rfl | decide +kernel)
    (case k__law_extended => first | k_is | ks_is | rfl | decide +kernel)
    (case a__law_best => first | k_is | ks_is | rfl | decide +kernel)
    (case l__law_best => first | k_is | ks_is | rfl | decide +kernel)
    (case c__law_best => first | k_is | ks_is | rfl | decide +kernel)
    (case k__law_best => first | k_is | ks_is | rfl | decide +kernel)
    (case a__law_path_is => first | k_is | ks_is | rfl | decide +kernel)
    (case l__law_path_is => first | k_is | ks_is | rfl | decide +kernel)
    (case c__law_path_is => first | k_is | ks_is | rfl | decide +kernel)
    (case k__law_path_is => first | k_is | ks_is | rfl | decide +kernel)
    (case a__law_told => first | k_is | ks_is | rfl | decide +kernel)
    (case l__law_told => first | k_is | ks_is | rfl | decide +kernel)
    (case c__law_told => first | k_is | ks_is | rfl | decide +kernel)
    (case k__law_told => first | k_is | ks_is | rfl | decide +kernel)
    (case a__law_drawn => first | k_is | ks_is | rfl | decide +kernel)
    (case l__law_drawn => first | k_is | ks_is | rfl | decide +kernel)
    (case c__law_drawn => first | k_is | ks_is | rfl | decide +kernel)
    (case k__law_drawn => first | k_is | ks_is | rfl | decide +kernel)
    (case a__law_kept => first | k_is | ks_is | rfl | decide +kernel)
    (case l__law_kept => first | k_is | ks_is | rfl | decide +kernel)
    (case c__law_kept => first | k_is | ks_is | rfl | decide +kernel)
    (case k__law_kept => first | k_is | ks_is | rfl | decide +kernel)
    (case a_law => first | k_is | ks_is | rfl | decide +kernel)
    (case l_law => first | k_is | ks_is | rfl | decide +kernel)
    (case c_law => first | k_is | ks_is | rfl | decide +kernel)
    (case k_law => first | k_is | ks_is | rfl | decide +kernel)
    (case al_collect_collecting => first | k_is | ks_is | rfl | decide +kernel)
    (case hP => exact PySem.W.km_tabs_of Y _ (by first | k_mem | simp))
    all_goals exact PySem.Value.none

import PyProof.Rows.All
import Wide.All
import OpenK.AllK
import Wide.FinOn
import KE.KExcSuper
import HandS.ForMost
import HandS.ForExc
import HandS.ExcInit
import HandS.Nested
import HandS.Flow
import HandS.IsInst
import HandS.Wide
import HandS.StrMore
import HandS.RaiseMore
import HandS.TupAny
import HandS.Style
import HandS.NoneIn
import HandS.Conv
import HandS.Deep
import HandS.Small
import HandS.Evl
import PySem.Challenge.RW_saggar_k10_names_and_selectors
set_option Elab.async false
set_option linter.all false
set_option maxRecDepth 100000
set_option maxHeartbeats 4000000
/-! universal rules: by the values' constructors -/
namespace LX
open PySem PySem.Spec PyProof.Rows L2
section
variable {X : Cx}
/-! ### operators -/
def rAddU (K : PySem.W.Frag) : R2 := fun x y H Q => match x, y with
  | .int i, .int j => Q (.int (i + j)) H
  | .str i, .str j => i.length + j.length ≤ sizeLine ∧ Q (.str (i ++ j)) H
  | .ref a, .ref b => rCat (.ref a) (.ref b) H Q ∨ rCatA K (.ref a) (.ref b) H Q
  | _, _ => False
theorem op_addU : OpR X (binaryOp .Add) (rAddU X.K) := by
  intro pins s σ H x y v u Q I rx ry h
  unfold rAddU at h
  split at h
  · exact op_add pins s σ H _ _ v u Q I rx ry ⟨_, _, rfl, rfl, h⟩
  · exact op_add_str pins s σ H _ _ v u Q I rx ry ⟨_, _, rfl, rfl, h.1, h.2⟩
  · rcases h with h | h
    · exact op_cat pins s σ H _ _ v u Q I rx ry h
    · exact op_catA pins s σ H _ _ v u Q I rx ry h
  · exact h.elim
def rMulU : R2 := fun x y H Q => match x, y with
  | .int i, .int j => CMul i j ∧ Q (.int (i * j)) H
  | .ref a, .int j => rRep (.ref a) (.int j) H Q
  | _, _ => False
theorem op_mulU : OpR X (binaryOp .Mult) rMulU := by
  intro pins s σ H x y v u Q I rx ry h
  unfold rMulU at h
  split at h
  · exact op_mul pins s σ H _ _ v u Q I rx ry ⟨_, _, rfl, rfl, h.1, h.2⟩
  · exact op_rep pins s σ H _ _ v u Q I rx ry h
  · exact h.elim
/-- an order by ints, by texts -/
def rOrd (f : Int → Int → Bool) (g : List Nat → List Nat → Bool) : R2 := fun x y H Q => match x, y with
  | .int i, .int j => Q (.bl (f i j)) H
  | .str i, .str j => Q (.bl (g i.cps.toList j.cps.toList)) H
  | _, _ => False
abbrev rLtU : R2 := rOrd (fun i j => decide (i < j)) (fun i j => decide (i < j))
abbrev rLeU : R2 := rOrd (fun i j => decide (i ≤ j)) (fun i j => !decide (j < i))
abbrev rGtU : R2 := rOrd (fun i j => decide (j < i)) (fun i j => decide (j < i))
abbrev rGeU : R2 := rOrd (fun i j => decide (j ≤ i)) (fun i j => !decide (i < j))
theorem op_ltU : OpR X (compareOp .Lt) rLtU := by
  intro pins s σ H x y v u Q I rx ry h
  unfold rLtU rOrd at h
  split at h
  · exact op_lt pins s σ H _ _ v u Q I rx ry ⟨_, _, rfl, rfl, h⟩
  · exact op_lt_str pins s σ H _ _ v u Q I rx ry ⟨_, _, rfl, rfl, h⟩
  · exact h.elim
theorem op_leU : OpR X (compareOp .LtE) rLeU := by
  intro pins s σ H x y v u Q I rx ry h
  unfold rLeU rOrd at h
  split at h
  · exact op_le pins s σ H _ _ v u Q I rx ry ⟨_, _, rfl, rfl, h⟩
  · exact op_le_str pins s σ H _ _ v u Q I rx ry ⟨_, _, rfl, rfl, h⟩
  · exact h.elim
theorem op_gtU : OpR X (compareOp .Gt) rGtU := by
  intro pins s σ H x y v u Q I rx ry h
  unfold rGtU rOrd at h
  split at h
  · exact op_gt pins s σ H _ _ v u Q I rx ry ⟨_, _, rfl, rfl, h⟩
  · exact op_gt_str pins s σ H _ _ v u Q I rx ry ⟨_, _, rfl, rfl, h⟩
  · exact h.elim
theorem op_geU : OpR X (compareOp .GtE) rGeU := by
  intro pins s σ H x y v u Q I rx ry h
  unfold rGeU rOrd at h
  split at h
  · exact op_ge pins s σ H _ _ v u Q I rx ry ⟨_, _, rfl, rfl, h⟩
  · exact op_ge_str pins s σ H _ _ v u Q I rx ry ⟨_, _, rfl, rfl, h⟩
  · exact h.elim
/-- ==, != : two objects (deep), else by value -/
def rEqU (K : PySem.W.Frag) (g : Bool → Bool) : R2 := fun x y H Q => match x, y with
  | .ref a, .ref b => ∃ d e, Dp K H (.ref a) d ∧ Dp K H (.ref b) e ∧ SeqAt.shaped d = true ∧ SeqAt.shaped e = true ∧ Q (.bl (g (PyData.eqv d e))) H
  | x, y => scal x y = true ∧ Q (.bl (g (decide (x = y)))) H
theorem op_eqU (hu : X.A.units + 64 < cLine) : OpR X (compareOp .Eq) (rEqU X.K id) := by
  intro pins s σ H x y v u Q I rx ry h
  unfold rEqU at h
  split at h
  · exact op_eqD hu pins s σ H _ _ v u Q I rx ry h
  · exact op_eq pins s σ H _ _ v u Q I rx ry h
theorem op_neU (hu : X.A.units + 64 < cLine) : OpR X (compareOp .NotEq) (rEqU X.K (!·)) := by
  intro pins s σ H x y v u Q I rx ry h
  unfold rEqU at h
  split at h
  · exact op_neD hu pins s σ H _ _ v u Q I rx ry h
  · exact op_ne pins s σ H _ _ v u Q I rx ry h
/-- x is None, True, False -/
def rIsU (g : Bool → Bool) : R2 := fun x y H Q => match y with
  | .non => Q (.bl (g (decide (x = .non)))) H
  | .bl b => Q (.bl (g (decide (x = .bl b)))) H
  | _ => False
theorem op_isU : OpR X (compareOp .Is) (rIsU id) := by
  intro pins s σ H x y v u Q I rx ry h
  unfold rIsU at h
  split at h
  · exact op_isN pins s σ H _ _ v u Q I rx ry ⟨rfl, h⟩
  · rename_i b
    cases (show u = Value.bool b from ry)
    by_cases e : x = .bl b
    · subst e
      cases (show v = Value.bool b from rx)
      exact wpAny_is_self rfl ⟨.bl true, H, I, rfl, by simpa using h⟩
    · refine wpAny_is_other ?_ ?_ ⟨.bl false, H, I, rfl, by simpa [e] using h⟩
      · first | rfl | (cases x <;> first | rfl | (cases rx; rfl) | (obtain ⟨t, rfl⟩ := rx; rfl))
      · intro z
        subst z
        exact e (RelV.inj rx rfl)
  · exact h.elim
theorem op_isnotU : OpR X (compareOp .IsNot) (rIsU (!·)) := by
  intro pins s σ H x y v u Q I rx ry h
  unfold rIsU at h
  split at h
  · exact op_notN pins s σ H _ _ v u Q I rx ry ⟨rfl, h⟩
  · rename_i b
    cases (show u = Value.bool b from ry)
    by_cases e : x = .bl b
    · subst e
      cases (show v = Value.bool b from rx)
      exact wpAny_isNot_self rfl ⟨.bl false, H, I, rfl, by simpa using h⟩
    · refine wpAny_isNot_other ?_ ?_ ⟨.bl true, H, I, rfl, by simpa [e] using h⟩
      · first | rfl | (cases x <;> first | rfl | (cases rx; rfl) | (obtain ⟨t, rfl⟩ := rx; rfl))
      · intro z
        subst z
        exact e (RelV.inj rx rfl)
  · exact h.elim
/-! ### subscripts, slices, in -/
def rIxU (K : PySem.W.Frag) : R2 := fun x y H Q => match x with
  | .str z => ∃ i c, y = .int i ∧ z.length ≤ sizeLine ∧ atI z.cps.toList i = some c ∧ Q (.str ⟨#[c]⟩) H
  | .ref p => (∃ xs i v, y = .int i ∧ (SqL K H p xs ∨ SqT K H p xs) ∧ atI xs i = some v ∧ Q v H) ∨ (∃ v, DGet H p y (some v) ∧ Q v H)
  | _ => False
theorem ix_U (hu : X.A.units + 1 < cLine) : IxR X (rIxU X.K) := by
  intro value slice pins s σ H x y v u Q I rx ry h hs
  unfold rIxU at h
  split at h
  · obtain ⟨i, c, rfl, h1, h2, q⟩ := h
    exact ix_str value slice pins s σ H _ _ v u Q I rx ry ⟨_, _, _, rfl, rfl, h1, h2, q⟩ hs
  · rcases h with ⟨xs, i, w', rfl, h1 | h1, h2, q⟩ | ⟨w', g, q⟩
    · exact ix_list value slice pins s σ H _ _ v u Q I rx ry ⟨_, _, _, _, rfl, rfl, h1, h2, q⟩ hs
    · exact ix_tup value slice pins s σ H _ _ v u Q I rx ry ⟨_, _, _, _, rfl, rfl, h1, h2, q⟩ hs
    · rename_i p
      obtain rfl : v = Value.ref p := rx
      exact tail_any (dict_typeIs I g) PySem.F.slot_dict_getitem.lookup (d_getItem hu I g ry fun w2 s2 I2 rw2 => ⟨w', H, I2, rw2, q⟩) hs
  · exact h.elim
def rSlU (K : PySem.W.Frag) : V → Option Int → Option Int → Hp → VK → Prop := fun x lo hi H Q => match x with
  | .str z => z.length ≤ sizeLine ∧ Q (.str (cutS z lo hi)) H
  | .ref a => rSlL K (.ref a) lo hi H Q ∨ rSlA K (.ref a) lo hi H Q
  | _ => False
theorem sl_U : SlR X (rSlU X.K) := by
  intro pins s σ H x v vl vu lo hi sl Q I rx hs pl pu h
  unfold rSlU at h
  split at h
  · exact sl_str pins s σ H _ v vl vu lo hi sl Q I rx hs pl pu ⟨_, rfl, h.1, h.2⟩
  · rcases h with h | h
    · exact sl_list pins s σ H _ v vl vu lo hi sl Q I rx hs pl pu h
    · exact sl_tupA pins s σ H _ v vl vu lo hi sl Q I rx hs pl pu h
  · exact h.elim
/-- in, not in -/
def rInU (K : PySem.W.Frag) (g : Bool → Bool) : R2 := fun x y H Q => match y with
  | .str z => (∃ c : Nat, x = .str ⟨#[c]⟩ ∧ Q (.bl (g (decide (c ∈ z.cps.toList)))) H) ∨ ∃ i, x = .str i ∧ Q (.bl (g (!(Builtin.Str.occurrences z i 0 z.length 1).isEmpty))) H
  | .ref p => (∃ xs, (SqL K H p xs ∨ SqT K H p xs) ∧ flatV x = true ∧ xs.all flatV = true ∧ Q (.bl (g (inV x xs))) H) ∨ (∃ o, DGet H p x o ∧ Q (.bl (g o.isSome)) H)
  | _ => False
theorem op_inU (hu : X.A.units + 1 < cLine) : OpR X (compareOp .In) (rInU X.K id) := by
  intro pins s σ H x y v u Q I rx ry h
  unfold rInU at h
  split at h
  · rcases h with ⟨c, rfl, q⟩ | ⟨i, rfl, q⟩
    · exact op_in_sign pins s σ H _ _ v u Q I rx ry ⟨_, _, rfl, rfl, q⟩
    · exact op_in_str pins s σ H _ _ v u Q I rx ry ⟨_, _, rfl, rfl, q⟩
  · rcases h with ⟨xs, h1, h2, h3, q⟩ | ⟨o, g, q⟩
    · exact op_in_seq pins s σ H _ _ v u Q I rx ry ⟨_, xs, rfl, h1, h2, h3, q⟩
    · rename_i p
      obtain rfl : u = Value.ref p := ry
      exact d_in hu I g rx fun s3 I3 => ⟨.bl o.isSome, H, I3, rfl, q⟩
  · exact h.elim
theorem op_ninU (hu : X.A.units + 1 < cLine) : OpR X (compareOp .NotIn) (rInU X.K (!·)) := by
  intro pins s σ H x y v u Q I rx ry h
  unfold rInU at h
  split at h
  · rcases h with ⟨c, rfl, q⟩ | ⟨i, rfl, q⟩
    · exact op_notIn_sign pins s σ H _ _ v u Q I rx ry ⟨_, _, rfl, rfl, q⟩
    · exact op_notin_str pins s σ H _ _ v u Q I rx ry ⟨_, _, rfl, rfl, q⟩
  · rcases h with ⟨xs, h1, h2, h3, q⟩ | ⟨o, g, q⟩
    · exact op_notIn_seq pins s σ H _ _ v u Q I rx ry ⟨_, xs, rfl, h1, h2, h3, q⟩
    · rename_i p
      obtain rfl : u = Value.ref p := ry
      exact d_notIn hu I g rx fun s3 I3 => ⟨.bl (!o.isSome), H, I3, rfl, q⟩
  · exact h.elim
/-! ### calls -/
def rLenU (K : PySem.W.Frag) : List V → Hp → VK → Prop := fun xs H Q => match xs with
  | [.str z] => z.length ≤ sizeLine ∧ Q (.int z.length) H
  | [.ref p] => (∃ ys, (SqL K H p ys ∨ SqT K H p ys) ∧ Q (.int ys.length) H) ∨ ∃ kvs, H p = some (.dK kvs) ∧ Q (.int kvs.length) H
  | _ => False
theorem call_lenU : CallR X (.builtin "len") (rLenU X.K) := by
  intro pins s σ H xs us Q I r h
  unfold rLenU at h
  split at h
  · exact call_len_str pins s σ H _ us Q I r ⟨_, rfl, h.1, h.2⟩
  · rcases h with ⟨ys, h1, q⟩ | ⟨kvs, h1, q⟩
    · exact call_len_seq pins s σ H _ us Q I r ⟨_, ys, rfl, h1, q⟩
    · exact call_lenD pins s σ H _ us Q I r ⟨_, kvs, rfl, h1, q⟩
  · exact h.elim
def rIntU : List V → Hp → VK → Prop := fun xs H Q => match xs with
  | [.int i] => Q (.int i) H
  | [.bl k] => Q (.int (if k then 1 else 0)) H
  | [.str a] => ∃ n, PySem.intText? a = some n ∧ a.length ≤ 640 ∧ Q (.int n) H
  | _ => False
theorem call_intU : CallR X (.type "int") rIntU := by
  intro pins s σ H xs us Q I r h
  unfold rIntU at h
  split at h
  · exact call_int1 pins s σ H _ us Q I r (.inl ⟨_, rfl, h⟩)
  · exact call_int1 pins s σ H _ us Q I r (.inr ⟨_, rfl, h⟩)
  · obtain ⟨n, h1, h2, q⟩ := h
    exact call_int_str pins s σ H _ us Q I r ⟨_, n, rfl, h1, h2, q⟩
  · exact h.elim
def rStrU : List V → Hp → VK → Prop := fun xs H Q => match xs with
  | [.int i] => i.natAbs.log2 < 1920 ∧ Q (.str (toString i)) H
  | [.str a] => Q (.str a) H
  | _ => False
theorem call_strU : CallR X (.type "str") rStrU := by
  intro pins s σ H xs us Q I r h
  unfold rStrU at h
  split at h
  · exact call_str_int pins s σ H _ us Q I r ⟨_, rfl, h.1, h.2⟩
  · exact SkE.call_str_str pins s σ H _ us Q I r ⟨_, rfl, h⟩
  · exact h.elim
/-- isinstance: a built-in type or an own class -/
def rIsU2 (K : PySem.W.Frag) : List V → Hp → VK → Prop := fun xs H Q => ∃ (x c : V) (t u : Value) (b : Bool), xs = [x, c] ∧ ClsV c u ∧ TyX K H x t ∧ PySem.W.kitOne K t u = some b ∧ Q (.bl b) H
end
theorem hu64_of {A : Around} {k : Nat} (hr : Room k A) : A.units + 64 < cLine := by have := hr.un; omega
theorem ite_eq {c d : Bool} {A B : Prop} (e : c = d) (h : if d = true then A else B) : if c = true then A else B := by rw [e]; exact h
theorem iteD {c : Prop} [Decidable c] {A B : Prop} (h1 : c → A) (h2 : ¬ c → B) : if decide c = true then A else B := by
  by_cases h : c
  · rw [decide_eq_true h]; exact iteT (h1 h)
  · rw [decide_eq_false h]; exact iteF (h2 h)
theorem iteND {c : Prop} [Decidable c] {A B : Prop} (h1 : ¬ c → A) (h2 : c → B) : if (!decide c) = true then A else B := by
  by_cases h : c
  · rw [decide_eq_true h]; exact iteF (h2 h)
  · rw [decide_eq_false h]; exact iteT (h1 h)
/-- a text by its signs -/
abbrev T (l : List Nat) : Str := ⟨l.toArray⟩
theorem T_of (z : Str) : z = T z.cps.toList := rfl
theorem T_inj {a b : List Nat} (h : T a = T b) : a = b := congrArg (fun x : Str => x.cps.toList) h
theorem T_app (a b : List Nat) : T a ++ T b = T (a ++ b) := by
  show (⟨a.toArray ++ b.toArray⟩ : Str) = ⟨(a ++ b).toArray⟩
  simp
theorem T_dec (a b : List Nat) : decide (V.str (T a) = V.str (T b)) = decide (a = b) := by
  by_cases h : a = b
  · subst h; simp
  · have : ¬ V.str (T a) = V.str (T b) := fun z => h (T_inj (V.str.inj z))
    rw [decide_eq_false this, decide_eq_false h]
theorem I_dec (a b : Int) : decide (V.int a = V.int b) = decide (a = b) := by
  by_cases h : a = b
  · subst h; simp
  · have : ¬ V.int a = V.int b := fun z => h (V.int.inj z)
    rw [decide_eq_false this, decide_eq_false h]
theorem B_dec (a b : Bool) : decide (V.bl a = V.bl b) = (a == b) := by cases a <;> cases b <;> rfl
theorem pe_strT {X : Cx} {x : Str} {l : List Nat} {j : Nat} {pos : Pos} (e : x = T l) : PE X (.Constant (.str x) j pos) (tC (.str (T l))) := by subst e; exact pe_str
theorem pv_some {X : Cx} : True := True.intro
theorem bb_len : bootBuiltins "len" = some (.builtin "len") := by first | rfl | decide +kernel
theorem bb_isinstance : bootBuiltins "isinstance" = some (.builtin "isinstance") := by first | rfl | decide +kernel
theorem bb_abs : bootBuiltins "abs" = some (.builtin "abs") := by first | rfl | decide +kernel
theorem bb_sorted : bootBuiltins "sorted" = some (.builtin "sorted") := by first | rfl | decide +kernel
theorem bb_min : bootBuiltins "min" = some (.builtin "min") := by first | rfl | decide +kernel
theorem bb_max : bootBuiltins "max" = some (.builtin "max") := by first | rfl | decide +kernel
theorem bb_sum : bootBuiltins "sum" = some (.builtin "sum") := by first | rfl | decide +kernel
theorem bb_all : bootBuiltins "all" = some (.builtin "all") := by first | rfl | decide +kernel
theorem bb_any : bootBuiltins "any" = some (.builtin "any") := by first | rfl | decide +kernel
theorem bb_repr : bootBuiltins "repr" = some (.builtin "repr") := by first | rfl | decide +kernel
theorem bb_int : bootBuiltins "int" = some (.type "int") := by first | rfl | decide +kernel
theorem bb_str : bootBuiltins "str" = some (.type "str") := by first | rfl | decide +kernel
theorem bb_bool : bootBuiltins "bool" = some (.type "bool") := by first | rfl | decide +kernel
theorem bb_list : bootBuiltins "list" = some (.type "list") := by first | rfl | decide +kernel
theorem bb_dict : bootBuiltins "dict" = some (.type "dict") := by first | rfl | decide +kernel
theorem bb_tuple : bootBuiltins "tuple" = some (.type "tuple") := by first | rfl | decide +kernel
theorem bb_set : bootBuiltins "set" = some (.type "set") := by first | rfl | decide +kernel
theorem bb_ValueError : bootBuiltins "ValueError" = some (.type "ValueError") := by first | rfl | decide +kernel
theorem pe_gi {X : Cx} {x : Str} {z : Int} {t : Tok} {pos : Pos} (hg : Gl X x) (hm : X.mg x = some (.int z t)) (hd : (x == ("__debug__" : Str)) = false := by decide) : PE X (.Name x pos) (tC (.int z)) := pe_glob hg hm ⟨_, rfl⟩ hd
theorem pe_gs {X : Cx} {x : Str} {z : Str} {t : Tok} {pos : Pos} (hg : Gl X x) (hm : X.mg x = some (.str z t)) (hd : (x == ("__debug__" : Str)) = false := by decide) : PE X (.Name x pos) (tC (.str z)) := pe_glob hg hm ⟨_, rfl⟩ hd
theorem pe_gr {X : Cx} {x : Str} {a : Addr} {pos : Pos} (hg : Gl X x) (hm : X.mg x = some (.ref a)) (hd : (x == ("__debug__" : Str)) = false := by decide) : PE X (.Name x pos) (tC (.ref a)) := pe_glob hg hm rfl hd
theorem pe_bt {X : Cx} {x : Str} {n : String} {pos : Pos} (hg : Gl X x) (hm : X.mg x = none) (hv : bootBuiltins x = some (.type n)) (hn : x ≠ "__name__" := by decide) (hd : (x == ("__debug__" : Str)) = false := by decide) : PE X (.Name x pos) (tC (.ty n)) := pe_bltn hg hm hv rfl hn hd
/-! isinstance against built-in types -/
theorem kt_int_int {K : PySem.W.Frag} : PySem.W.kitOne K (.type "int") (.type "int") = some true := kit_ty (by decide +kernel)
theorem kt_int_bool {K : PySem.W.Frag} : PySem.W.kitOne K (.type "int") (.type "bool") = some false := kit_ty (by decide +kernel)
theorem kt_int_str {K : PySem.W.Frag} : PySem.W.kitOne K (.type "int") (.type "str") = some false := kit_ty (by decide +kernel)
theorem kt_int_list {K : PySem.W.Frag} : PySem.W.kitOne K (.type "int") (.type "list") = some false := kit_ty (by decide +kernel)
theorem kt_int_tuple {K : PySem.W.Frag} : PySem.W.kitOne K (.type "int") (.type "tuple") = some false := kit_ty (by decide +kernel)
theorem kt_int_dict {K : PySem.W.Frag} : PySem.W.kitOne K (.type "int") (.type "dict") = some false := kit_ty (by decide +kernel)
theorem kt_bool_int {K : PySem.W.Frag} : PySem.W.kitOne K (.type "bool") (.type "int") = some true := kit_ty (by decide +kernel)
theorem kt_bool_bool {K : PySem.W.Frag} : PySem.W.kitOne K (.type "bool") (.type "bool") = some true := kit_ty (by decide +kernel)
theorem kt_bool_str {K : PySem.W.Frag} : PySem.W.kitOne K (.type "bool") (.type "str") = some false := kit_ty (by decide +kernel)
theorem kt_bool_list {K : PySem.W.Frag} : PySem.W.kitOne K (.type "bool") (.type "list") = some false := kit_ty (by decide +kernel)
theorem kt_bool_tuple {K : PySem.W.Frag} : PySem.W.kitOne K (.type "bool") (.type "tuple") = some false := kit_ty (by decide +kernel)
theorem kt_bool_dict {K : PySem.W.Frag} : PySem.W.kitOne K (.type "bool") (.type "dict") = some false := kit_ty (by decide +kernel)
theorem kt_str_int {K : PySem.W.Frag} : PySem.W.kitOne K (.type "str") (.type "int") = some false := kit_ty (by decide +kernel)
theorem kt_str_bool {K : PySem.W.Frag} : PySem.W.kitOne K (.type "str") (.type "bool") = some false := kit_ty (by decide +kernel)
theorem kt_str_str {K : PySem.W.Frag} : PySem.W.kitOne K (.type "str") (.type "str") = some true := kit_ty (by decide +kernel)
theorem kt_str_list {K : PySem.W.Frag} : PySem.W.kitOne K (.type "str") (.type "list") = some false := kit_ty (by decide +kernel)
theorem kt_str_tuple {K : PySem.W.Frag} : PySem.W.kitOne K (.type "str") (.type "tuple") = some false := kit_ty (by decide +kernel)
theorem kt_str_dict {K : PySem.W.Frag} : PySem.W.kitOne K (.type "str") (.type "dict") = some false := kit_ty (by decide +kernel)
theorem kt_list_int {K : PySem.W.Frag} : PySem.W.kitOne K (.type "list") (.type "int") = some false := kit_ty (by decide +kernel)
theorem kt_list_bool {K : PySem.W.Frag} : PySem.W.kitOne K (.type "list") (.type "bool") = some false := kit_ty (by decide +kernel)
theorem kt_list_str {K : PySem.W.Frag} : PySem.W.kitOne K (.type "list") (.type "str") = some false := kit_ty (by decide +kernel)
theorem kt_list_list {K : PySem.W.Frag} : PySem.W.kitOne K (.type "list") (.type "list") = some true := kit_ty (by decide +kernel)
theorem kt_list_tuple {K : PySem.W.Frag} : PySem.W.kitOne K (.type "list") (.type "tuple") = some false := kit_ty (by decide +kernel)
theorem kt_list_dict {K : PySem.W.Frag} : PySem.W.kitOne K (.type "list") (.type "dict") = some false := kit_ty (by decide +kernel)
theorem kt_tuple_int {K : PySem.W.Frag} : PySem.W.kitOne K (.type "tuple") (.type "int") = some false := kit_ty (by decide +kernel)
theorem kt_tuple_bool {K : PySem.W.Frag} : PySem.W.kitOne K (.type "tuple") (.type "bool") = some false := kit_ty (by decide +kernel)
theorem kt_tuple_str {K : PySem.W.Frag} : PySem.W.kitOne K (.type "tuple") (.type "str") = some false := kit_ty (by decide +kernel)
theorem kt_tuple_list {K : PySem.W.Frag} : PySem.W.kitOne K (.type "tuple") (.type "list") = some false := kit_ty (by decide +kernel)
theorem kt_tuple_tuple {K : PySem.W.Frag} : PySem.W.kitOne K (.type "tuple") (.type "tuple") = some true := kit_ty (by decide +kernel)
theorem kt_tuple_dict {K : PySem.W.Frag} : PySem.W.kitOne K (.type "tuple") (.type "dict") = some false := kit_ty (by decide +kernel)
theorem kt_dict_int {K : PySem.W.Frag} : PySem.W.kitOne K (.type "dict") (.type "int") = some false := kit_ty (by decide +kernel)
theorem kt_dict_bool {K : PySem.W.Frag} : PySem.W.kitOne K (.type "dict") (.type "bool") = some false := kit_ty (by decide +kernel)
theorem kt_dict_str {K : PySem.W.Frag} : PySem.W.kitOne K (.type "dict") (.type "str") = some false := kit_ty (by decide +kernel)
theorem kt_dict_list {K : PySem.W.Frag} : PySem.W.kitOne K (.type "dict") (.type "list") = some false := kit_ty (by decide +kernel)
theorem kt_dict_tuple {K : PySem.W.Frag} : PySem.W.kitOne K (.type "dict") (.type "tuple") = some false := kit_ty (by decide +kernel)
theorem kt_dict_dict {K : PySem.W.Frag} : PySem.W.kitOne K (.type "dict") (.type "dict") = some true := kit_ty (by decide +kernel)
theorem kt_NoneType_int {K : PySem.W.Frag} : PySem.W.kitOne K (.type "NoneType") (.type "int") = some false := kit_ty (by decide +kernel)
theorem kt_NoneType_bool {K : PySem.W.Frag} : PySem.W.kitOne K (.type "NoneType") (.type "bool") = some false := kit_ty (by decide +kernel)
theorem kt_NoneType_str {K : PySem.W.Frag} : PySem.W.kitOne K (.type "NoneType") (.type "str") = some false := kit_ty (by decide +kernel)
theorem kt_NoneType_list {K : PySem.W.Frag} : PySem.W.kitOne K (.type "NoneType") (.type "list") = some false := kit_ty (by decide +kernel)
theorem kt_NoneType_tuple {K : PySem.W.Frag} : PySem.W.kitOne K (.type "NoneType") (.type "tuple") = some false := kit_ty (by decide +kernel)
theorem kt_NoneType_dict {K : PySem.W.Frag} : PySem.W.kitOne K (.type "NoneType") (.type "dict") = some false := kit_ty (by decide +kernel)
end LX
namespace LX
open PySem PySem.Spec PyProof.Rows L2 NdefX
def LET : List Nat := (List.range 26).map (65 + ·) ++ (List.range 26).map (97 + ·)
def DIG : List Nat := (List.range 10).map (48 + ·)
def SGN : List Nat := [43, 45, 42, 47, 60, 62, 61, 126, 38, 44, 64]
theorem e_LET : PySem.Str.ofString "ABCDEFGHIJKLMNOPQRSTUVWXYZabcdefghijklmnopqrstuvwxyz" = T LET := by decide +kernel
theorem e_DIG : PySem.Str.ofString "0123456789" = T DIG := by decide +kernel
theorem e_SGN : PySem.Str.ofString "+-*/<>=~&,@" = T SGN := by decide +kernel
def top (i : Nat) : Stmt := PySem.Challenge.pw_saggar_k10_names_and_selectors.main.body.getD i (.Pass ⟨0, 0, 0, 0⟩)
abbrev s_char_at : Stmt := top 5
abbrev N_char_at : List Str := ["source", "at"]
theorem sc_char_at : FnScope N_char_at ["source", "at"] (defScope s_char_at) := ⟨rfl, rfl, rfl, by decide +kernel, rfl, by decide +kernel, by decide +kernel⟩
abbrev s_is_in : Stmt := top 6
abbrev N_is_in : List Str := ["char", "chars"]
theorem sc_is_in : FnScope N_is_in ["char", "chars"] (defScope s_is_in) := ⟨rfl, rfl, rfl, by decide +kernel, rfl, by decide +kernel, by decide +kernel⟩
abbrev s_end_of : Stmt := top 7
abbrev N_end_of : List Str := ["source", "at", "chars"]
theorem sc_end_of : FnScope N_end_of ["source", "at", "chars"] (defScope s_end_of) := ⟨rfl, rfl, rfl, by decide +kernel, rfl, by decide +kernel, by decide +kernel⟩
abbrev s_is_name : Stmt := top 8
abbrev N_is_name : List Str := ["text"]
theorem sc_is_name : FnScope N_is_name ["text"] (defScope s_is_name) := ⟨rfl, rfl, rfl, by decide +kernel, rfl, by decide +kernel, by decide +kernel⟩
abbrev s_arity : Stmt := top 9
abbrev N_arity : List Str := ["selector"]
theorem sc_arity : FnScope N_arity ["selector"] (defScope s_arity) := ⟨rfl, rfl, rfl, by decide +kernel, rfl, by decide +kernel, by decide +kernel⟩
abbrev s__law_start : Stmt := top 11
abbrev N__law_start : List Str := ["_law_script"]
theorem sc__law_start : FnScope N__law_start ["_law_script"] (defScope s__law_start) := ⟨rfl, rfl, rfl, by decide +kernel, rfl, by decide +kernel, by decide +kernel⟩
abbrev s__law_pick : Stmt := top 12
abbrev N__law_pick : List Str := ["_law_state", "_law_limit", "_law_cell", "_law_drawn"]
theorem sc__law_pick : FnScope N__law_pick ["_law_state", "_law_limit"] (defScope s__law_pick) := ⟨rfl, rfl, rfl, by decide +kernel, rfl, by decide +kernel, by decide +kernel⟩
abbrev s__law_letters : Stmt := top 13
abbrev N__law_letters : List Str := []
theorem sc__law_letters : FnScope N__law_letters [] (defScope s__law_letters) := ⟨rfl, rfl, rfl, by decide +kernel, rfl, by decide +kernel, by decide +kernel⟩
abbrev s__law_string : Stmt := top 14
abbrev N__law_string : List Str := ["_law_state", "_law_size", "_law_chars", "_law_string_here", "_law_k"]
theorem sc__law_string : FnScope N__law_string ["_law_state"] (defScope s__law_string) := ⟨rfl, rfl, rfl, by decide +kernel, rfl, by decide +kernel, by decide +kernel⟩
abbrev s__law_is_name : Stmt := top 15
abbrev N__law_is_name : List Str := ["_law_string_here", "_law_k"]
theorem sc__law_is_name : FnScope N__law_is_name ["_law_string_here"] (defScope s__law_is_name) := ⟨rfl, rfl, rfl, by decide +kernel, rfl, by decide +kernel, by decide +kernel⟩
abbrev s__law_name : Stmt := top 16
abbrev N__law_name : List Str := ["_law_state", "_law_size", "_law_name_here", "_law_k"]
theorem sc__law_name : FnScope N__law_name ["_law_state"] (defScope s__law_name) := ⟨rfl, rfl, rfl, by decide +kernel, rfl, by decide +kernel, by decide +kernel⟩
abbrev s__law_selector : Stmt := top 17
abbrev N__law_selector : List Str := ["_law_state", "_law_choice", "_law_selector_here", "_law_k", "_law_count"]
theorem sc__law_selector : FnScope N__law_selector ["_law_state"] (defScope s__law_selector) := ⟨rfl, rfl, rfl, by decide +kernel, rfl, by decide +kernel, by decide +kernel⟩
abbrev s_law : Stmt := top 18
abbrev N_law : List Str := ["_law_script", "_law_state", "_law_k", "_law_string_here", "_law_actual", "_law_name_here", "_law_found", "_law_selector_here", "_law_count"]
theorem sc_law : FnScope N_law ["_law_script"] (defScope s_law) := ⟨rfl, rfl, rfl, by decide +kernel, rfl, by decide +kernel, by decide +kernel⟩
structure Wd (P : Program) (K : PySem.W.Frag) (mg : Str → Option Value) where
  n_abs : mg "abs" = none
  n_bool : mg "bool" = none
  n_int : mg "int" = none
  n_isinstance : mg "isinstance" = none
  n_len : mg "len" = none
  n_range : mg "range" = none
  t_MOST_NAME : Tok
  g_MOST_NAME : mg "MOST_NAME" = some (.int (32) t_MOST_NAME)
  t_LETTERS : Tok
  g_LETTERS : mg "LETTERS" = some (.str (T LET) t_LETTERS)
  t_DIGITS : Tok
  g_DIGITS : mg "DIGITS" = some (.str (T DIG) t_DIGITS)
  t_SIGNS : Tok
  g_SIGNS : mg "SIGNS" = some (.str (T SGN) t_SIGNS)
  f_char_at : Addr
  fd_char_at : FuncData
  F_char_at : Fun K "char_at" "char_at" s_char_at f_char_at fd_char_at
  g_char_at : mg "char_at" = some (.ref f_char_at)
  b_char_at : Binds K fd_char_at ["source", "at"] []
  f_is_in : Addr
  fd_is_in : FuncData
  F_is_in : Fun K "is_in" "is_in" s_is_in f_is_in fd_is_in
  g_is_in : mg "is_in" = some (.ref f_is_in)
  b_is_in : Binds K fd_is_in ["char", "chars"] []
  f_end_of : Addr
  fd_end_of : FuncData
  F_end_of : Fun K "end_of" "end_of" s_end_of f_end_of fd_end_of
  g_end_of : mg "end_of" = some (.ref f_end_of)
  b_end_of : Binds K fd_end_of ["source", "at", "chars"] []
  f_is_name : Addr
  fd_is_name : FuncData
  F_is_name : Fun K "is_name" "is_name" s_is_name f_is_name fd_is_name
  g_is_name : mg "is_name" = some (.ref f_is_name)
  b_is_name : Binds K fd_is_name ["text"] []
  f_arity : Addr
  fd_arity : FuncData
  F_arity : Fun K "arity" "arity" s_arity f_arity fd_arity
  g_arity : mg "arity" = some (.ref f_arity)
  b_arity : Binds K fd_arity ["selector"] []
  f__law_start : Addr
  fd__law_start : FuncData
  F__law_start : Fun K "_law_start" "_law_start" s__law_start f__law_start fd__law_start
  g__law_start : mg "_law_start" = some (.ref f__law_start)
  b__law_start : Binds K fd__law_start ["_law_script"] []
  f__law_pick : Addr
  fd__law_pick : FuncData
  F__law_pick : Fun K "_law_pick" "_law_pick" s__law_pick f__law_pick fd__law_pick
  g__law_pick : mg "_law_pick" = some (.ref f__law_pick)
  b__law_pick : Binds K fd__law_pick ["_law_state", "_law_limit"] []
  f__law_letters : Addr
  fd__law_letters : FuncData
  F__law_letters : Fun K "_law_letters" "_law_letters" s__law_letters f__law_letters fd__law_letters
  g__law_letters : mg "_law_letters" = some (.ref f__law_letters)
  b__law_letters : Binds K fd__law_letters [] []
  f__law_string : Addr
  fd__law_string : FuncData
  F__law_string : Fun K "_law_string" "_law_string" s__law_string f__law_string fd__law_string
  g__law_string : mg "_law_string" = some (.ref f__law_string)
  b__law_string : Binds K fd__law_string ["_law_state"] []
  f__law_is_name : Addr
  fd__law_is_name : FuncData
  F__law_is_name : Fun K "_law_is_name" "_law_is_name" s__law_is_name f__law_is_name fd__law_is_name
  g__law_is_name : mg "_law_is_name" = some (.ref f__law_is_name)
  b__law_is_name : Binds K fd__law_is_name ["_law_string_here"] []
  f__law_name : Addr
  fd__law_name : FuncData
  F__law_name : Fun K "_law_name" "_law_name" s__law_name f__law_name fd__law_name
  g__law_name : mg "_law_name" = some (.ref f__law_name)
  b__law_name : Binds K fd__law_name ["_law_state"] []
  f__law_selector : Addr
  fd__law_selector : FuncData
  F__law_selector : Fun K "_law_selector" "_law_selector" s__law_selector f__law_selector fd__law_selector
  g__law_selector : mg "_law_selector" = some (.ref f__law_selector)
  b__law_selector : Binds K fd__law_selector ["_law_state"] []
  f_law : Addr
  fd_law : FuncData
  F_law : Fun K "law" "law" s_law f_law fd_law
  g_law : mg "law" = some (.ref f_law)
  b_law : Binds K fd_law ["_law_script"] []
def mkW {l : PySem.W.OpenLaw} {K : PySem.W.Frag} {h : Heap} {mg : Str → Option Value} (X : K.In h) (G : h.Ns mainGlobals mg)
    {t_MOST_NAME : Tok}
    {t_LETTERS : Tok}
    {t_DIGITS : Tok}
    {t_SIGNS : Tok}
    {occhar_at kVchar_at dcchar_at pmchar_at cdchar_at ctchar_at : Value} {odchar_at anchar_at : Option Addr} {slchar_at : Array (Option Value)} {fchar_at : Addr}
    {ocis_in kVis_in dcis_in pmis_in cdis_in ctis_in : Value} {odis_in anis_in : Option Addr} {slis_in : Array (Option Value)} {fis_in : Addr}
    {ocend_of kVend_of dcend_of pmend_of cdend_of ctend_of : Value} {odend_of anend_of : Option Addr} {slend_of : Array (Option Value)} {fend_of : Addr}
    {ocis_name kVis_name dcis_name pmis_name cdis_name ctis_name : Value} {odis_name anis_name : Option Addr} {slis_name : Array (Option Value)} {fis_name : Addr}
    {ocarity kVarity dcarity pmarity cdarity ctarity : Value} {odarity anarity : Option Addr} {slarity : Array (Option Value)} {farity : Addr}
    {oc_law_start kV_law_start dc_law_start pm_law_start cd_law_start ct_law_start : Value} {od_law_start an_law_start : Option Addr} {sl_law_start : Array (Option Value)} {f_law_start : Addr}
    {oc_law_pick kV_law_pick dc_law_pick pm_law_pick cd_law_pick ct_law_pick : Value} {od_law_pick an_law_pick : Option Addr} {sl_law_pick : Array (Option Value)} {f_law_pick : Addr}
    {oc_law_letters kV_law_letters dc_law_letters pm_law_letters cd_law_letters ct_law_letters : Value} {od_law_letters an_law_letters : Option Addr} {sl_law_letters : Array (Option Value)} {f_law_letters : Addr}
    {oc_law_string kV_law_string dc_law_string pm_law_string cd_law_string ct_law_string : Value} {od_law_string an_law_string : Option Addr} {sl_law_string : Array (Option Value)} {f_law_string : Addr}
    {oc_law_is_name kV_law_is_name dc_law_is_name pm_law_is_name cd_law_is_name ct_law_is_name : Value} {od_law_is_name an_law_is_name : Option Addr} {sl_law_is_name : Array (Option Value)} {f_law_is_name : Addr}
    {oc_law_name kV_law_name dc_law_name pm_law_name cd_law_name ct_law_name : Value} {od_law_name an_law_name : Option Addr} {sl_law_name : Array (Option Value)} {f_law_name : Addr}
    {oc_law_selector kV_law_selector dc_law_selector pm_law_selector cd_law_selector ct_law_selector : Value} {od_law_selector an_law_selector : Option Addr} {sl_law_selector : Array (Option Value)} {f_law_selector : Addr}
    {oclaw kVlaw dclaw pmlaw cdlaw ctlaw : Value} {odlaw anlaw : Option Addr} {sllaw : Array (Option Value)} {flaw : Addr}
    (z_abs : PySem.W.nsIn K mainGlobals "abs" = some none)
    (z_bool : PySem.W.nsIn K mainGlobals "bool" = some none)
    (z_int : PySem.W.nsIn K mainGlobals "int" = some none)
    (z_isinstance : PySem.W.nsIn K mainGlobals "isinstance" = some none)
    (z_len : PySem.W.nsIn K mainGlobals "len" = some none)
    (z_range : PySem.W.nsIn K mainGlobals "range" = some none)
    (c_MOST_NAME : PySem.W.nsIn K mainGlobals "MOST_NAME" = some (some (.int (32) t_MOST_NAME)))
    (c_LETTERS : PySem.W.nsIn K mainGlobals "LETTERS" = some (some (.str (PySem.Str.ofString "ABCDEFGHIJKLMNOPQRSTUVWXYZabcdefghijklmnopqrstuvwxyz") t_LETTERS)))
    (c_DIGITS : PySem.W.nsIn K mainGlobals "DIGITS" = some (some (.str (PySem.Str.ofString "0123456789") t_DIGITS)))
    (c_SIGNS : PySem.W.nsIn K mainGlobals "SIGNS" = some (some (.str (PySem.Str.ofString "+-*/<>=~&,@") t_SIGNS)))
    (a_char_at : PySem.W.nsIn K mainGlobals "char_at" = some (some (.ref fchar_at)))
    (l_char_at : K.lookup fchar_at = some ⟨occhar_at, odchar_at, .func (PySem.W.fnOf "char_at" "char_at" (defArgs s_char_at) (defBody s_char_at) (defScope s_char_at) .none kVchar_at dcchar_at pmchar_at anchar_at cdchar_at ctchar_at), slchar_at⟩)
    (c_char_at : PySem.W.codeIn K cdchar_at "char_at" = true)
    (k_char_at : PySem.W.keepIn K (.ref fchar_at) = true)
    (a_is_in : PySem.W.nsIn K mainGlobals "is_in" = some (some (.ref fis_in)))
    (l_is_in : K.lookup fis_in = some ⟨ocis_in, odis_in, .func (PySem.W.fnOf "is_in" "is_in" (defArgs s_is_in) (defBody s_is_in) (defScope s_is_in) .none kVis_in dcis_in pmis_in anis_in cdis_in ctis_in), slis_in⟩)
    (c_is_in : PySem.W.codeIn K cdis_in "is_in" = true)
    (k_is_in : PySem.W.keepIn K (.ref fis_in) = true)
    (a_end_of : PySem.W.nsIn K mainGlobals "end_of" = some (some (.ref fend_of)))
    (l_end_of : K.lookup fend_of = some ⟨ocend_of, odend_of, .func (PySem.W.fnOf "end_of" "end_of" (defArgs s_end_of) (defBody s_end_of) (defScope s_end_of) .none kVend_of dcend_of pmend_of anend_of cdend_of ctend_of), slend_of⟩)
    (c_end_of : PySem.W.codeIn K cdend_of "end_of" = true)
    (k_end_of : PySem.W.keepIn K (.ref fend_of) = true)
    (a_is_name : PySem.W.nsIn K mainGlobals "is_name" = some (some (.ref fis_name)))
    (l_is_name : K.lookup fis_name = some ⟨ocis_name, odis_name, .func (PySem.W.fnOf "is_name" "is_name" (defArgs s_is_name) (defBody s_is_name) (defScope s_is_name) .none kVis_name dcis_name pmis_name anis_name cdis_name ctis_name), slis_name⟩)
    (c_is_name : PySem.W.codeIn K cdis_name "is_name" = true)
    (k_is_name : PySem.W.keepIn K (.ref fis_name) = true)
    (a_arity : PySem.W.nsIn K mainGlobals "arity" = some (some (.ref farity)))
    (l_arity : K.lookup farity = some ⟨ocarity, odarity, .func (PySem.W.fnOf "arity" "arity" (defArgs s_arity) (defBody s_arity) (defScope s_arity) .none kVarity dcarity pmarity anarity cdarity ctarity), slarity⟩)
    (c_arity : PySem.W.codeIn K cdarity "arity" = true)
    (k_arity : PySem.W.keepIn K (.ref farity) = true)
    (a__law_start : PySem.W.nsIn K mainGlobals "_law_start" = some (some (.ref f_law_start)))
    (l__law_start : K.lookup f_law_start = some ⟨oc_law_start, od_law_start, .func (PySem.W.fnOf "_law_start" "_law_start" (defArgs s__law_start) (defBody s__law_start) (defScope s__law_start) .none kV_law_start dc_law_start pm_law_start an_law_start cd_law_start ct_law_start), sl_law_start⟩)
    (c__law_start : PySem.W.codeIn K cd_law_start "_law_start" = true)
    (k__law_start : PySem.W.keepIn K (.ref f_law_start) = true)
    (a__law_pick : PySem.W.nsIn K mainGlobals "_law_pick" = some (some (.ref f_law_pick)))
    (l__law_pick : K.lookup f_law_pick = some ⟨oc_law_pick, od_law_pick, .func (PySem.W.fnOf "_law_pick" "_law_pick" (defArgs s__law_pick) (defBody s__law_pick) (defScope s__law_pick) .none kV_law_pick dc_law_pick pm_law_pick an_law_pick cd_law_pick ct_law_pick), sl_law_pick⟩)
    (c__law_pick : PySem.W.codeIn K cd_law_pick "_law_pick" = true)
    (k__law_pick : PySem.W.keepIn K (.ref f_law_pick) = true)
    (a__law_letters : PySem.W.nsIn K mainGlobals "_law_letters" = some (some (.ref f_law_letters)))
    (l__law_letters : K.lookup f_law_letters = some ⟨oc_law_letters, od_law_letters, .func (PySem.W.fnOf "_law_letters" "_law_letters" (defArgs s__law_letters) (defBody s__law_letters) (defScope s__law_letters) .none kV_law_letters dc_law_letters pm_law_letters an_law_letters cd_law_letters ct_law_letters), sl_law_letters⟩)
    (c__law_letters : PySem.W.codeIn K cd_law_letters "_law_letters" = true)
    (k__law_letters : PySem.W.keepIn K (.ref f_law_letters) = true)
    (a__law_string : PySem.W.nsIn K mainGlobals "_law_string" = some (some (.ref f_law_string)))
    (l__law_string : K.lookup f_law_string = some ⟨oc_law_string, od_law_string, .func (PySem.W.fnOf "_law_string" "_law_string" (defArgs s__law_string) (defBody s__law_string) (defScope s__law_string) .none kV_law_string dc_law_string pm_law_string an_law_string cd_law_string ct_law_string), sl_law_string⟩)
    (c__law_string : PySem.W.codeIn K cd_law_string "_law_string" = true)
    (k__law_string : PySem.W.keepIn K (.ref f_law_string) = true)
    (a__law_is_name : PySem.W.nsIn K mainGlobals "_law_is_name" = some (some (.ref f_law_is_name)))
    (l__law_is_name : K.lookup f_law_is_name = some ⟨oc_law_is_name, od_law_is_name, .func (PySem.W.fnOf "_law_is_name" "_law_is_name" (defArgs s__law_is_name) (defBody s__law_is_name) (defScope s__law_is_name) .none kV_law_is_name dc_law_is_name pm_law_is_name an_law_is_name cd_law_is_name ct_law_is_name), sl_law_is_name⟩)
    (c__law_is_name : PySem.W.codeIn K cd_law_is_name "_law_is_name" = true)
    (k__law_is_name : PySem.W.keepIn K (.ref f_law_is_name) = true)
    (a__law_name : PySem.W.nsIn K mainGlobals "_law_name" = some (some (.ref f_law_name)))
    (l__law_name : K.lookup f_law_name = some ⟨oc_law_name, od_law_name, .func (PySem.W.fnOf "_law_name" "_law_name" (defArgs s__law_name) (defBody s__law_name) (defScope s__law_name) .none kV_law_name dc_law_name pm_law_name an_law_name cd_law_name ct_law_name), sl_law_name⟩)
    (c__law_name : PySem.W.codeIn K cd_law_name "_law_name" = true)
    (k__law_name : PySem.W.keepIn K (.ref f_law_name) = true)
    (a__law_selector : PySem.W.nsIn K mainGlobals "_law_selector" = some (some (.ref f_law_selector)))
    (l__law_selector : K.lookup f_law_selector = some ⟨oc_law_selector, od_law_selector, .func (PySem.W.fnOf "_law_selector" "_law_selector" (defArgs s__law_selector) (defBody s__law_selector) (defScope s__law_selector) .none kV_law_selector dc_law_selector pm_law_selector an_law_selector cd_law_selector ct_law_selector), sl_law_selector⟩)
    (c__law_selector : PySem.W.codeIn K cd_law_selector "_law_selector" = true)
    (k__law_selector : PySem.W.keepIn K (.ref f_law_selector) = true)
    (a_law : PySem.W.nsIn K mainGlobals "law" = some (some (.ref flaw)))
    (l_law : K.lookup flaw = some ⟨oclaw, odlaw, .func (PySem.W.fnOf "law" "law" (defArgs s_law) (defBody s_law) (defScope s_law) .none kVlaw dclaw pmlaw anlaw cdlaw ctlaw), sllaw⟩)
    (c_law : PySem.W.codeIn K cdlaw "law" = true)
    (k_law : PySem.W.keepIn K (.ref flaw) = true) : Wd l.prog K mg :=
  { n_abs := PySem.W.mg_none_of X G z_abs,
    n_bool := PySem.W.mg_none_of X G z_bool,
    n_int := PySem.W.mg_none_of X G z_int,
    n_isinstance := PySem.W.mg_none_of X G z_isinstance,
    n_len := PySem.W.mg_none_of X G z_len,
    n_range := PySem.W.mg_none_of X G z_range,
    t_MOST_NAME := t_MOST_NAME, g_MOST_NAME := PySem.W.mg_of X G c_MOST_NAME,
    t_LETTERS := t_LETTERS, g_LETTERS := by have z := PySem.W.mg_of X G c_LETTERS; rw [e_LET] at z; exact z,
    t_DIGITS := t_DIGITS, g_DIGITS := by have z := PySem.W.mg_of X G c_DIGITS; rw [e_DIG] at z; exact z,
    t_SIGNS := t_SIGNS, g_SIGNS := by have z := PySem.W.mg_of X G c_SIGNS; rw [e_SGN] at z; exact z,
    f_char_at := fchar_at, fd_char_at := _, F_char_at := fun_mk (st := s_char_at) l_char_at c_char_at k_char_at,
    g_char_at := PySem.W.mg_of X G a_char_at,
    b_char_at := (fun_mk (st := s_char_at) l_char_at c_char_at k_char_at).binds (ps := ["source", "at"]) fun _ _ _ _ _ _ us hl => match us, hl with | [_, _], _ => rfl,
    f_is_in := fis_in, fd_is_in := _, F_is_in := fun_mk (st := s_is_in) l_is_in c_is_in k_is_in,
    g_is_in := PySem.W.mg_of X G a_is_in,
    b_is_in := (fun_mk (st := s_is_in) l_is_in c_is_in k_is_in).binds (ps := ["char", "chars"]) fun _ _ _ _ _ _ us hl => match us, hl with | [_, _], _ => rfl,
    f_end_of := fend_of, fd_end_of := _, F_end_of := fun_mk (st := s_end_of) l_end_of c_end_of k_end_of,
    g_end_of := PySem.W.mg_of X G a_end_of,
    b_end_of := (fun_mk (st := s_end_of) l_end_of c_end_of k_end_of).binds (ps := ["source", "at", "chars"]) fun _ _ _ _ _ _ us hl => match us, hl with | [_, _, _], _ => rfl,
    f_is_name := fis_name, fd_is_name := _, F_is_name := fun_mk (st := s_is_name) l_is_name c_is_name k_is_name,
    g_is_name := PySem.W.mg_of X G a_is_name,
    b_is_name := (fun_mk (st := s_is_name) l_is_name c_is_name k_is_name).binds (ps := ["text"]) fun _ _ _ _ _ _ us hl => match us, hl with | [_], _ => rfl,
    f_arity := farity, fd_arity := _, F_arity := fun_mk (st := s_arity) l_arity c_arity k_arity,
    g_arity := PySem.W.mg_of X G a_arity,
    b_arity := (fun_mk (st := s_arity) l_arity c_arity k_arity).binds (ps := ["selector"]) fun _ _ _ _ _ _ us hl => match us, hl with | [_], _ => rfl,
    f__law_start := f_law_start, fd__law_start := _, F__law_start := fun_mk (st := s__law_start) l__law_start c__law_start k__law_start,
    g__law_start := PySem.W.mg_of X G a__law_start,
    b__law_start := (fun_mk (st := s__law_start) l__law_start c__law_start k__law_start).binds (ps := ["_law_script"]) fun _ _ _ _ _ _ us hl => match us, hl with | [_], _ => rfl,
    f__law_pick := f_law_pick, fd__law_pick := _, F__law_pick := fun_mk (st := s__law_pick) l__law_pick c__law_pick k__law_pick,
    g__law_pick := PySem.W.mg_of X G a__law_pick,
    b__law_pick := (fun_mk (st := s__law_pick) l__law_pick c__law_pick k__law_pick).binds (ps := ["_law_state", "_law_limit"]) fun _ _ _ _ _ _ us hl => match us, hl with | [_, _], _ => rfl,
    f__law_letters := f_law_letters, fd__law_letters := _, F__law_letters := fun_mk (st := s__law_letters) l__law_letters c__law_letters k__law_letters,
    g__law_letters := PySem.W.mg_of X G a__law_letters,
    b__law_letters := (fun_mk (st := s__law_letters) l__law_letters c__law_letters k__law_letters).binds (ps := []) fun _ _ _ _ _ _ us hl => match us, hl with | [], _ => rfl,
    f__law_string := f_law_string, fd__law_string := _, F__law_string := fun_mk (st := s__law_string) l__law_string c__law_string k__law_string,
    g__law_string := PySem.W.mg_of X G a__law_string,
    b__law_string := (fun_mk (st := s__law_string) l__law_string c__law_string k__law_string).binds (ps := ["_law_state"]) fun _ _ _ _ _ _ us hl => match us, hl with | [_], _ => rfl,
    f__law_is_name := f_law_is_name, fd__law_is_name := _, F__law_is_name := fun_mk (st := s__law_is_name) l__law_is_name c__law_is_name k__law_is_name,
    g__law_is_name := PySem.W.mg_of X G a__law_is_name,
    b__law_is_name := (fun_mk (st := s__law_is_name) l__law_is_name c__law_is_name k__law_is_name).binds (ps := ["_law_string_here"]) fun _ _ _ _ _ _ us hl => match us, hl with | [_], _ => rfl,
    f__law_name := f_law_name, fd__law_name := _, F__law_name := fun_mk (st := s__law_name) l__law_name c__law_name k__law_name,
    g__law_name := PySem.W.mg_of X G a__law_name,
    b__law_name := (fun_mk (st := s__law_name) l__law_name c__law_name k__law_name).binds (ps := ["_law_state"]) fun _ _ _ _ _ _ us hl => match us, hl with | [_], _ => rfl,
    f__law_selector := f_law_selector, fd__law_selector := _, F__law_selector := fun_mk (st := s__law_selector) l__law_selector c__law_selector k__law_selector,
    g__law_selector := PySem.W.mg_of X G a__law_selector,
    b__law_selector := (fun_mk (st := s__law_selector) l__law_selector c__law_selector k__law_selector).binds (ps := ["_law_state"]) fun _ _ _ _ _ _ us hl => match us, hl with | [_], _ => rfl,
    f_law := flaw, fd_law := _, F_law := fun_mk (st := s_law) l_law c_law k_law,
    g_law := PySem.W.mg_of X G a_law,
    b_law := (fun_mk (st := s_law) l_law c_law k_law).binds (ps := ["_law_script"]) fun _ _ _ _ _ _ us hl => match us, hl with | [_], _ => rfl }

end LX
namespace LX
open PySem PySem.Spec PyProof.Rows L2 NdefX
/-- the sign at a place, as a text -/
def chs (l : List Nat) (i : Nat) : List Nat := (l.drop i).take 1
theorem cut1 (l : List Nat) (i : Nat) : cutS (T l) (some (i : Int)) (some ((i : Int) + 1)) = T (chs l i) := by
  unfold cutS
  have h1 : HT.sIx (T l).length 0 (some (i : Int)) = min i l.length := HT.sIx_nat _ _ _
  have h2 : HT.sIx (T l).length (T l).length (some ((i : Int) + 1)) = min (i + 1) l.length := HT.sIx_nat _ _ (i + 1)
  rw [h1, h2]
  show T _ = T _
  congr 1
  unfold chs
  show ((l.drop (min i l.length)).take (min (i + 1) l.length - min i l.length)) = _
  by_cases h : i < l.length
  · rw [show min i l.length = i by omega, show min (i + 1) l.length - i = 1 by omega]
  · rw [List.drop_eq_nil_of_le (by omega : l.length ≤ min i l.length), List.drop_eq_nil_of_le (by omega : l.length ≤ i)]
    simp
def isIn (c m : List Nat) : Bool := c.any fun x => decide (x ∈ m)
section
variable {P : Program} {w : World} {K : PySem.W.Frag} {mg : Str → Option Value} {base : Heap}
def sp_char_at : Sp := fun vs H Q _ => ∃ (l : List Nat) (i : Nat), vs = [.str (T l), .int (i : Int)] ∧ l.length ≤ 100000 ∧ Q (.str (T (chs l i))) H
theorem ok_char_at (W : Wd P K mg) : FnOk P w K mg base CX0 1 W.f_char_at W.fd_char_at ["source", "at"] sp_char_at := by
  refine W.F_char_at.ok sc_char_at (fun vs H Q E h => ?_) (fun cdv A outer s H vs Q E hr h => ?_)
  · obtain ⟨l, i, rfl, _⟩ := h
    rfl
  · obtain ⟨l, i, rfl, hl, k⟩ := h
    have hu1 := hu_of hr
    have hu64 := hu64_of hr
    refine ⟨_, (pss_one (ps_ret (pe_slice sl_U (pv 0) (po_some (pv 1)) (po_some (pe_op op_addU (pv 1) pe_int))))), ?_⟩
    refine ⟨_, rfl, _, rfl, _, rfl, _, rfl, _, rfl, ?_⟩
    refine ⟨Nat.le_trans hl (by decide), ?_⟩
    rw [cut1]
    exact k
end
section
local macro_rules | `(tactic| walk_at "v") => `(tactic| repeat (first | refine ⟨_, rfl, ?_⟩ | refine ⟨_, _, rfl, rfl, ?_⟩))
variable {P : Program} {w : World} {K : PySem.W.Frag} {mg : Str → Option Value} {base : Heap}
theorem ne_nil (c : List Nat) : (!decide ((V.str (T c)) = V.str (T []))) = !c.isEmpty := by
  cases c with
  | nil => simp
  | cons a r => simp [T]
def sp_is_in : Sp := fun vs H Q _ => ∃ (c m : List Nat), vs = [.str (T c), .str (T m)] ∧ c.length ≤ 1 ∧ Q (.bl (isIn c m)) H
theorem ok_is_in (W : Wd P K mg) : FnOk P w K mg base CX0 1 W.f_is_in W.fd_is_in ["char", "chars"] sp_is_in := by
  refine W.F_is_in.ok sc_is_in (fun vs H Q E h => ?_) (fun cdv A outer s H vs Q E hr h => ?_)
  · obtain ⟨l, i, rfl, _⟩ := h
    rfl
  · obtain ⟨c, m, rfl, hl, k⟩ := h
    have hu1 := hu_of hr
    have hu64 := hu64_of hr
    refine ⟨_, (pss_one (ps_ret (pe_and (pe_cmpR (op_neU hu64) (pv 0) (pe_strT (show (PySem.Str.ofString "") = T [] by decide +kernel)) (by first | exact nomark _ | rfl)) (pe_one (pe_cmpR (op_inU hu1) (pv 0) (pv 1) (by first | exact nomark _ | rfl)))))), ?_⟩
    refine ⟨_, rfl, rfl, ?_⟩
    refine ⟨_, rfl, ?_⟩
    refine ite_eq (ne_nil c) ?_
    cases c with
    | nil => exact iteF k
    | cons x r =>
      cases r with
      | cons y r => simp at hl
      | nil =>
        refine iteT ?_
        walk_at "v"
        refine Or.inl ⟨x, rfl, ?_⟩
        have e : isIn [x] m = decide (x ∈ m) := by simp [isIn]
        rw [e] at k
        exact k
def run (l : List Nat) (i : Nat) (m : List Nat) : Nat := ((l.drop i).takeWhile fun x => decide (x ∈ m)).length
theorem run_lt {l m : List Nat} {i : Nat} (h : isIn (chs l i) m = true) : i < l.length ∧ run l i m = run l (i + 1) m + 1 := by
  unfold isIn chs at h
  cases e : l.drop i with
  | nil => rw [e] at h; simp at h
  | cons a r =>
    have hi : i < l.length := by
      by_cases hh : i < l.length
      · exact hh
      · rw [List.drop_eq_nil_of_le (by omega)] at e
        cases e
    have er : l.drop (i + 1) = r := by
      rw [show i + 1 = i + 1 from rfl, ← List.drop_drop, e]
      rfl
    rw [e] at h
    refine ⟨hi, ?_⟩
    unfold run
    rw [e, er, List.takeWhile_cons, if_pos (by simpa using h)]
    rfl
theorem run_no {l m : List Nat} {i : Nat} (h : isIn (chs l i) m = false) : run l i m = 0 := by
  unfold isIn chs at h
  unfold run
  cases e : l.drop i with
  | nil => rfl
  | cons a r =>
    rw [e] at h
    rw [List.takeWhile_cons, if_neg (by simpa using h)]
    rfl
def sp_end_of : Sp := fun vs H Q _ => ∃ (l : List Nat) (i : Nat) (m : List Nat), vs = [.str (T l), .int (i : Int), .str (T m)] ∧ l.length ≤ 100000 ∧ Q (.int ((i + run l i m : Nat) : Int)) H
theorem ok_end_of (W : Wd P K mg) : FnOk P w K mg base CX0 2 W.f_end_of W.fd_end_of ["source", "at", "chars"] sp_end_of := by
  refine W.F_end_of.ok sc_end_of (fun vs H Q E h => ?_) (fun cdv A outer s H vs Q E hr h => ?_)
  · obtain ⟨l, i, m, rfl, _⟩ := h
    rfl
  · obtain ⟨l, i, m, rfl, hl, k⟩ := h
    have hu1 := hu_of hr
    have hu64 := hu64_of hr
    refine ⟨_, (pss_cons (ps_while PassesOwn.never (pt_truth (pe_call (ok_is_in W) (hr.mono (by decide)) rfl W.g_is_in W.F_is_in.kp W.b_is_in .nil pass0 (pa_cons (pe_call (ok_char_at W) (hr.mono (by decide)) rfl W.g_char_at W.F_char_at.kp W.b_char_at .nil pass0 (pa_cons (pv 0) (pa_cons (pv 1) pa_nil))) (pa_cons (pv 2) pa_nil))) (by intro _; rfl)) (pss_one (ps_aug (i := 1) sc_end_of.nd rfl (by first | exact Or.inl rfl | exact Or.inr rfl) pe_int ip_add)))
      (pss_one (ps_ret (pv 1)))), ?_⟩
    refine ⟨fun n σ H' => ∃ j : Nat, σ = [some (.str (T l)), some (.int (j : Int)), some (.str (T m))] ∧ H' = H ∧ j + run l j m = i + run l i m ∧ n = run l j m, ⟨_, i, rfl, rfl, rfl, rfl⟩, ?_⟩
    rintro n σ H' ⟨j, rfl, rfl, hj, rfl⟩
    refine ⟨_, rfl, _, rfl, l, j, rfl, hl, ?_⟩
    refine ⟨_, rfl, chs l j, m, rfl, by unfold chs; rw [List.length_take]; omega, ?_⟩
    refine ⟨_, rfl, ?_⟩
    cases e : isIn (chs l j) m with
    | true =>
      obtain ⟨h1, h2⟩ := run_lt e
      refine iteT ?_
      refine ⟨_, fun _ _ z => z, ?_⟩
      refine ⟨_, rfl, _, _, rfl, rfl, ?_⟩
      exact ⟨run l (j + 1) m, by omega, j + 1, rfl, rfl, by omega, rfl⟩
    | false =>
      refine iteF ?_
      have h0 := run_no e
      refine ⟨_, rfl, ?_⟩
      rw [← hj, h0] at k
      exact k
end
section
local macro_rules | `(tactic| walk_at "v") => `(tactic| repeat (first | refine ⟨_, rfl, ?_⟩ | refine ⟨_, _, rfl, rfl, ?_⟩))
variable {P : Program} {w : World} {K : PySem.W.Frag} {mg : Str → Option Value} {base : Heap}
/-- the drawing's state at p -/
def St (K : PySem.W.Frag) (H : Hp) (p : Addr) : Prop := ∃ (a : Addr) (ns : List Int) (i : Nat) (c d : Int),
  H p = some (.lst [.ref a, .int (i : Int), .int c, .int d]) ∧ SqL K H a (ns.map V.int) ∧ ns.length ≤ 63 ∧ 0 ≤ c ∧ 0 ≤ d ∧ d < 2147483648
theorem sq_keep {H : Hp} {a b p : Addr} {ns : List Int} {r : List V} {o : HO} (h : SqL K H a (ns.map V.int)) (hp : H p = some (.lst (.ref b :: r))) : SqL K (upd H p o) a (ns.map V.int) := by
  have ne : Rd H a (.lst (ns.map V.int)) → a ≠ p := fun rd e => by
    subst e
    rcases rd with h | ⟨o, h⟩
    · rw [hp] at h
      cases ns with
      | nil => cases h
      | cons n r => cases h
    · rw [hp] at h
      cases h
  rcases h with h | h
  · have n := ne h
    rcases h with h | ⟨o, h⟩
    · exact .inl (.inl (by rw [upd_ne n]; exact h))
    · exact .inl (.inr ⟨o, by rw [upd_ne n]; exact h⟩)
  · exact .inr h
theorem St.upd {H : Hp} {a p : Addr} {ns : List Int} {x : V} {r : List V} {i : Nat} {c d : Int} (hp : H p = some (.lst (.ref x' :: r))) (h : SqL K H a (ns.map V.int)) (hl : ns.length ≤ 63) (h1 : 0 ≤ c) (h2 : 0 ≤ d) (h3 : d < 2147483648) :
    St K (upd H p (.lst [.ref a, .int (i : Int), .int c, .int d])) p := ⟨a, ns, i, c, d, upd_same, sq_keep h hp, hl, h1, h2, h3⟩
def sp_pick (K : PySem.W.Frag) : Sp := fun vs H Q _ => ∃ (p : Addr) (lim : Int), vs = [.ref p, .int lim] ∧ St K H p ∧ 0 < lim ∧ lim ≤ 100000 ∧ ∀ (r : Int) (H' : Hp), 0 ≤ r → r < lim → St K H' p → (∀ b, b ≠ p → H' b = H b) → Q (.int r) H'
theorem lim_ok {lim : Int} (h : 0 < lim) (h2 : lim ≤ 100000) : CDivW 0 lim := ⟨h, by
  have : lim.natAbs.log2 ≤ lim.natAbs := Nat.log2_le_self _
  have e : lim.natAbs ≤ 100000 := by omega
  have : lim.natAbs.log2 < 17 := by
    by_cases z : lim.natAbs = 0
    · omega
    · exact (Nat.log2_lt z).mpr (by omega)
  omega⟩
theorem ok__law_pick (W : Wd P K mg) : FnOk P w K mg base CX0 1 W.f__law_pick W.fd__law_pick ["_law_state", "_law_limit"] (sp_pick K) := by
  refine W.F__law_pick.ok sc__law_pick (fun vs H Q E h => ?_) (fun cdv A outer s H vs Q E hr h => ?_)
  · obtain ⟨p, lim, rfl, _⟩ := h
    rfl
  · obtain ⟨p, lim, rfl, hS, hl0, hl1, k⟩ := h
    have hu1 := hu_of hr
    have hu64 := hu64_of hr
    have cd := lim_ok hl0 hl1
    refine ⟨_, (Evl.pss_cut (ps_if (PW.pt (pw_and (pt_cmpR (op_eqU hu64) (pe_ix (ix_U hu1) (pv 0) pe_int (fun _ _ => rfl)) pe_int (by first | exact nomark _ | rfl)) (pw_and1 (pt_cmpR op_ltU (pe_ix (ix_U hu1) (pv 0) pe_int (fun _ _ => rfl)) (pe_callB call_lenU (by rfl) W.n_len bb_len (pa_cons (pe_ix (ix_U hu1) (pv 0) pe_int (fun _ _ => rfl)) pa_nil)) (by first | exact nomark _ | rfl))))) (pss_cons (ps_set (i := 2) sc__law_pick.nd rfl (by first | exact Or.inl rfl | exact Or.inr rfl) (pe_callB call_abs (by rfl) W.n_abs bb_abs (pa_cons (pe_ix (ix_U hu1) (pe_ix (ix_U hu1) (pv 0) pe_int (fun _ _ => rfl)) (pe_ix (ix_U hu1) (pv 0) pe_int (fun _ _ => rfl)) (fun _ _ => rfl)) pa_nil)))
      (pss_cons (ps_asg (pe_op op_addU (pe_ix (ix_U hu1) (pv 0) pe_int (fun _ _ => rfl)) pe_int) (pg_sub (pv 0) pe_int set_list))
      (pss_one (ps_if (pt_cmpR op_geU (pv 2) (pe_op op_pow pe_int pe_int) (by first | exact nomark _ | rfl)) (pss_one (ps_asg (pv 2) (pg_sub (pv 0) pe_int set_list))) (pss_one (ps_asg (pe_op op_addU (pe_op op_mod (pe_callTy call_intU (by rfl) W.n_int bb_int (pa_cons (pe_op op_addU (pe_op op_mulU (pe_ix (ix_U hu1) (pv 0) pe_int (fun _ _ => rfl)) pe_int) (pv 2)) pa_nil)) pe_int) pe_int) (pg_sub (pv 0) pe_int set_list))))))) pss_nil)
      (pss_cons (ps_if (pt_cmpR op_gtU (pe_ix (ix_U hu1) (pv 0) pe_int (fun _ _ => rfl)) pe_int (by first | exact nomark _ | rfl)) (pss_cons (ps_set (i := 3) sc__law_pick.nd rfl (by first | exact Or.inl rfl | exact Or.inr rfl) (pe_op op_mod (pe_callTy call_intU (by rfl) W.n_int bb_int (pa_cons (pe_ix (ix_U hu1) (pv 0) pe_int (fun _ _ => rfl)) pa_nil)) (pv 1)))
      (pss_cons (ps_asg (pe_op op_fdivW (pe_ix (ix_U hu1) (pv 0) pe_int (fun _ _ => rfl)) (pv 1)) (pg_sub (pv 0) pe_int set_list))
      (pss_one (ps_ret (pv 3))))) pss_nil)
      (pss_cons (ps_asg (pe_op op_mod (pe_callTy call_intU (by rfl) W.n_int bb_int (pa_cons (pe_op op_mulU (pe_ix (ix_U hu1) (pv 0) pe_int (fun _ _ => rfl)) pe_int) pa_nil)) pe_int) (pg_sub (pv 0) pe_int set_list))
      (pss_one (ps_ret (pe_op op_mod (pe_callTy call_intU (by rfl) W.n_int bb_int (pa_cons (pe_op op_addU (pe_op op_fdivW (pe_ix (ix_U hu1) (pv 0) pe_int (fun _ _ => rfl)) pe_int) (pe_op op_mod (pe_callTy call_intU (by rfl) W.n_int bb_int (pa_cons (pe_op op_mulU (pe_ix (ix_U hu1) (pv 0) pe_int (fun _ _ => rfl)) (pe_ix (ix_U hu1) (pv 0) pe_int (fun _ _ => rfl))) pa_nil)) pe_int)) pa_nil)) (pv 1))))))), ?_⟩
    refine ⟨fun σ H1 => (∃ v, σ = [some (.ref p), some (.int lim), v, none]) ∧ St K H1 p ∧ ∀ b, b ≠ p → H1 b = H b, ?_, ?_⟩
    · obtain ⟨a, ns, i, c, d, hp, hs, hl, h1, h2, h3⟩ := id hS
      have same : ∀ o, ∀ b, b ≠ p → upd H p o b = H b := fun o b hb => upd_ne hb
      -- state[2] == 0
      refine ⟨_, rfl, Or.inl ⟨_, _, _, rfl, Or.inl (SqL.of hp), rfl, ?_⟩⟩
      refine ⟨rfl, _, rfl, ?_⟩
      refine ite_eq (I_dec c 0) (iteD (fun hc => ?_) (fun hc => ?_))
      · -- state[1] < len(state[0])
        refine ⟨_, rfl, Or.inl ⟨_, _, _, rfl, Or.inl (SqL.of hp), rfl, ?_⟩⟩
        refine ⟨_, rfl, Or.inl ⟨_, _, _, rfl, Or.inl (SqL.of hp), rfl, ?_⟩⟩
        refine Or.inl ⟨_, Or.inl hs, ?_⟩
        refine ⟨_, rfl, ?_⟩
        rw [List.length_map]
        refine iteD (fun hi => ?_) (fun hi => ?_)
        · -- the cell
          have hi' : i < ns.length := by omega
          have hx : (ns.map V.int)[i]? = some (V.int ns[i]) := by rw [List.getElem?_map, List.getElem?_eq_getElem hi']; rfl
          refine ⟨_, rfl, Or.inl ⟨_, _, _, rfl, Or.inl (SqL.of hp), rfl, ?_⟩⟩
          refine ⟨_, rfl, Or.inl ⟨_, _, _, rfl, Or.inl (SqL.of hp), rfl, ?_⟩⟩
          refine Or.inl ⟨_, _, _, rfl, Or.inl hs, atI_nat hx, ?_⟩
          refine ⟨_, rfl, ?_⟩
          generalize hcell : (if ns[i] < 0 then -ns[i] else ns[i]) = cell
          have cell0 : 0 ≤ cell := by rw [← hcell]; split <;> omega
          -- state[1] = state[1] + 1
          refine ⟨_, rfl, Or.inl ⟨_, _, _, rfl, Or.inl (SqL.of hp), rfl, ?_⟩⟩
          refine ⟨_, rfl, p, _, _, _, rfl, rfl, hp, rfl, ?_⟩
          have hp1 : (L2.upd H p (.lst ([V.ref a, .int (i : Int), .int c, .int d].set 1 (.int ((i : Int) + 1))))) p = some (.lst [V.ref a, .int ((i + 1 : Nat) : Int), .int c, .int d]) := upd_same
          refine ⟨_, rfl, _, _, rfl, rfl, ⟨by decide, by decide, by decide⟩, ?_⟩
          refine ⟨_, rfl, ?_⟩
          refine iteD (fun hg => ?_) (fun hg => ?_)
          · refine ⟨_, rfl, _, rfl, p, _, _, _, rfl, rfl, hp1, rfl, ?_⟩
            rw [upd_upd]
            exact ⟨⟨_, rfl⟩, St.upd (i := i + 1) (x := .non) hp hs hl cell0 h2 h3, same _⟩
          · refine ⟨_, rfl, Or.inl ⟨_, _, _, rfl, Or.inl (SqL.of hp1), rfl, ?_⟩⟩
            refine ⟨Or.inr ⟨by decide, by decide⟩, ?_⟩
            refine ⟨_, rfl, ?_⟩
            refine ⟨_, _, rfl, rfl, (by show (0 : Int) < 2147483646; decide), ?_⟩
            refine ⟨_, rfl, p, _, _, _, rfl, rfl, hp1, rfl, ?_⟩
            rw [upd_upd]
            have e1 := Int.emod_nonneg (d * 48271 + cell) (by decide : (2147483646 : Int) ≠ 0)
            have e2 := Int.emod_lt_of_pos (d * 48271 + cell) (by decide : (0 : Int) < 2147483646)
            exact ⟨⟨_, rfl⟩, St.upd (i := i + 1) (x := .non) hp hs hl h1 (by omega) (by omega), same _⟩
        · exact ⟨⟨_, rfl⟩, hS, fun _ _ => rfl⟩
      · exact ⟨⟨_, rfl⟩, hS, fun _ _ => rfl⟩
    · rintro σ H1 ⟨⟨v, rfl⟩, hS1, same1⟩
      obtain ⟨a, ns, i, c, d, hp, hs, hl, h1, h2, h3⟩ := id hS1
      have same : ∀ o, ∀ b, b ≠ p → upd H1 p o b = H b := fun o b hb => (upd_ne hb).trans (same1 b hb)
      refine ⟨_, rfl, Or.inl ⟨_, _, _, rfl, Or.inl (SqL.of hp), rfl, ?_⟩⟩
      refine ⟨_, rfl, ?_⟩
      refine iteD (fun hc => ?_) (fun hc => ?_)
      · refine ⟨_, rfl, Or.inl ⟨_, _, _, rfl, Or.inl (SqL.of hp), rfl, ?_⟩⟩
        refine ⟨_, rfl, _, _, rfl, rfl, hl0, ?_⟩
        refine ⟨_, rfl, Or.inl ⟨_, _, _, rfl, Or.inl (SqL.of hp), rfl, ?_⟩⟩
        refine ⟨_, rfl, _, _, rfl, rfl, cd, ?_⟩
        refine ⟨_, rfl, p, _, _, _, rfl, rfl, hp, rfl, ?_⟩
        refine ⟨_, rfl, ?_⟩
        exact k _ _ (Int.emod_nonneg _ (by omega)) (Int.emod_lt_of_pos _ hl0) (St.upd (i := i) (x := .non) hp hs hl (Int.ediv_nonneg h1 (by omega)) h2 h3) (same _)
      · refine ⟨_, rfl, Or.inl ⟨_, _, _, rfl, Or.inl (SqL.of hp), rfl, ?_⟩⟩
        refine ⟨Or.inr ⟨by decide, by decide⟩, ?_⟩
        refine ⟨_, _, rfl, rfl, (by show (0 : Int) < 2147483647; decide), ?_⟩
        refine ⟨_, rfl, p, _, _, _, rfl, rfl, hp, rfl, ?_⟩
        have e1 := Int.emod_nonneg (d * 48271) (by decide : (2147483647 : Int) ≠ 0)
        have e2 := Int.emod_lt_of_pos (d * 48271) (by decide : (0 : Int) < 2147483647)
        obtain ⟨d', hd'⟩ : ∃ d', d' = d * 48271 % 2147483647 := ⟨_, rfl⟩
        rw [← hd'] at e1 e2
        have hp1 : (L2.upd H1 p (.lst ([V.ref a, .int (i : Int), .int c, .int d].set 3 (.int (d * 48271 % 2147483647))))) p = some (.lst [V.ref a, .int (i : Int), .int c, .int d']) := by rw [hd']; exact upd_same
        refine ⟨_, rfl, Or.inl ⟨_, _, _, rfl, Or.inl (SqL.of hp1), rfl, ?_⟩⟩
        refine ⟨_, _, rfl, rfl, ⟨by decide, by decide⟩, ?_⟩
        refine ⟨_, rfl, Or.inl ⟨_, _, _, rfl, Or.inl (SqL.of hp1), rfl, ?_⟩⟩
        refine ⟨_, rfl, Or.inl ⟨_, _, _, rfl, Or.inl (SqL.of hp1), rfl, ?_⟩⟩
        refine ⟨Or.inl ⟨by omega, by omega⟩, ?_⟩
        refine ⟨_, _, rfl, rfl, (by show (0 : Int) < 2147483629; decide), ?_⟩
        refine ⟨_, rfl, _, _, rfl, rfl, hl0, ?_⟩
        exact k _ _ (Int.emod_nonneg _ (by omega)) (Int.emod_lt_of_pos _ hl0) (by have z := St.upd (i := i) (x := .non) (d := d') hp hs hl h1 (by omega) (by omega); rw [hd'] at z; exact z) (same _)
end
section
variable {P : Program} {w : World} {K : PySem.W.Frag} {mg : Str → Option Value} {base : Heap}
theorem St.new {H : Hp} {p q : Addr} {o : HO} (S : St K H p) (hq : H q = none) : St K (L2.upd H q o) p := by
  obtain ⟨a, ns, i, c, d, hp, hs, r⟩ := S
  have same : Same H (L2.upd H q o) := fun b u e => by rw [upd_ne (ne_of_none e hq)]; exact e
  exact ⟨a, ns, i, c, d, same _ _ hp, same.seq hs, r⟩
/-! ### names, plainly -/
def nameB (l : List Nat) : Bool := isIn (chs l 0) LET && decide (l.length ≤ 32) && decide (run l 0 (LET ++ DIG) = l.length)
structure Nm (l : List Nat) : Prop where
  hd : ∃ a r, l = a :: r ∧ a ∈ LET
  len : l.length ≤ 32
  all : ∀ x ∈ l, x ∈ LET ++ DIG
theorem takeWhile_all {l : List Nat} {f : Nat → Bool} : (l.takeWhile f).length = l.length ↔ ∀ x ∈ l, f x = true := by
  induction l with
  | nil => simp
  | cons a r ih =>
    rw [List.takeWhile_cons]
    by_cases h : f a = true
    · rw [if_pos h]
      simp only [List.length_cons, List.mem_cons, forall_eq_or_imp]
      constructor
      · intro z; exact ⟨h, ih.mp (by omega)⟩
      · intro z; have := ih.mpr z.2; omega
    · rw [if_neg h]
      simp only [List.length_nil, List.length_cons, List.mem_cons, forall_eq_or_imp]
      constructor
      · intro z; omega
      · intro z; exact absurd z.1 h
theorem run_all {l m : List Nat} : run l 0 m = l.length ↔ ∀ x ∈ l, x ∈ m := by
  unfold run
  rw [List.drop_zero, takeWhile_all]
  simp
theorem nameB_iff (l : List Nat) : nameB l = true ↔ (∃ a r, l = a :: r ∧ a ∈ LET) ∧ l.length ≤ 32 ∧ ∀ x ∈ l, x ∈ LET ++ DIG := by
  unfold nameB
  rw [Bool.and_eq_true, Bool.and_eq_true, decide_eq_true_eq, decide_eq_true_eq, run_all]
  have : isIn (chs l 0) LET = true ↔ ∃ a r, l = a :: r ∧ a ∈ LET := by
    cases l with
    | nil => simp [isIn, chs]
    | cons a r => simp [isIn, chs]
  rw [this]
  exact ⟨fun z => ⟨z.1.1, z.1.2, z.2⟩, fun z => ⟨⟨z.1, z.2.1⟩, z.2.2⟩⟩
theorem Nm.b {l : List Nat} (h : Nm l) : nameB l = true := (nameB_iff l).mpr ⟨h.hd, h.len, h.all⟩
theorem let_sgn : ∀ a ∈ LET, a ∉ SGN := by decide +kernel
theorem ld_58 : ∀ a ∈ LET ++ DIG, a ≠ 58 := by decide +kernel
theorem ld_len : (LET ++ DIG).length = 62 := by decide +kernel
theorem let_len : LET.length = 52 := by decide +kernel
theorem sgn_len : SGN.length = 11 := by decide +kernel
theorem at_mem {l : List Nat} {n : Int} {m : Nat} (h0 : 0 ≤ n) (h1 : n < (m : Int)) (hm : l.length = m) : ∃ c, atI l n = some c ∧ c ∈ l := by
  have hi : n.toNat < l.length := by omega
  refine ⟨l[n.toNat], ?_, List.getElem_mem hi⟩
  have e : ((n.toNat : Nat) : Int) = n := by omega
  have z := atI_nat (xs := l) (j := n.toNat) (List.getElem?_eq_getElem hi)
  rw [e] at z
  exact z
def sp_is_name : Sp := fun vs H Q _ => ∃ l : List Nat, vs = [.str (T l)] ∧ l.length ≤ 100000 ∧ Q (.bl (nameB l)) H
theorem ok_is_name (W : Wd P K mg) : FnOk P w K mg base CX0 3 W.f_is_name W.fd_is_name ["text"] sp_is_name := by
  refine W.F_is_name.ok sc_is_name (fun vs H Q E h => ?_) (fun cdv A outer s H vs Q E hr h => ?_)
  · obtain ⟨l, rfl, _⟩ := h
    rfl
  · obtain ⟨l, rfl, hl, k⟩ := h
    have hu1 := hu_of hr
    have hu64 := hu64_of hr
    refine ⟨_, (pss_cons (ps_if (PW.pt (pw_or (pt_not (pt_truth (pe_call (ok_is_in W) (hr.mono (by decide)) rfl W.g_is_in W.F_is_in.kp W.b_is_in .nil pass0 (pa_cons (pe_call (ok_char_at W) (hr.mono (by decide)) rfl W.g_char_at W.F_char_at.kp W.b_char_at .nil pass0 (pa_cons (pv 0) (pa_cons pe_int pa_nil))) (pa_cons (pe_gs rfl W.g_LETTERS) pa_nil))) (by intro _; rfl))) (pw_or1 (pt_cmpR op_gtU (pe_callB call_lenU (by rfl) W.n_len bb_len (pa_cons (pv 0) pa_nil)) (pe_gi rfl W.g_MOST_NAME) (by first | exact nomark _ | rfl))))) (pss_one (ps_ret pe_bl)) pss_nil)
      (pss_one (ps_ret (pe_cmpR (op_eqU hu64) (pe_call (ok_end_of W) (hr.mono (by decide)) rfl W.g_end_of W.F_end_of.kp W.b_end_of .nil pass0 (pa_cons (pv 0) (pa_cons pe_int (pa_cons (pe_op op_addU (pe_gs rfl W.g_LETTERS) (pe_gs rfl W.g_DIGITS)) pa_nil)))) (pe_callB call_lenU (by rfl) W.n_len bb_len (pa_cons (pv 0) pa_nil)) (by first | exact nomark _ | rfl))))), ?_⟩
    refine ⟨_, rfl, l, 0, rfl, hl, ?_⟩
    refine ⟨chs l 0, LET, rfl, by unfold chs; rw [List.length_take]; omega, ?_⟩
    refine ⟨_, rfl, ?_⟩
    have k2 : ∀ b, nameB l = b → Q (.bl b) H := fun b e => by rw [← e]; exact k
    cases e : isIn (chs l 0) LET with
    | false =>
      refine iteT (iteT ?_)
      exact k2 false (by unfold nameB; rw [e]; rfl)
    | true =>
      refine iteF ?_
      refine ⟨_, rfl, Nat.le_trans hl (by decide), ?_⟩
      refine ⟨_, rfl, ?_⟩
      refine iteD (fun h => ?_) (fun h => ?_)
      · refine k2 false ?_
        have : ¬ l.length ≤ 32 := by
          have h : (32 : Int) < ((T l).length : Int) := h
          have : (T l).length = l.length := rfl
          omega
        unfold nameB
        rw [decide_eq_false this, Bool.and_false, Bool.false_and]
      · have h32 : l.length ≤ 32 := by
          have h : ¬ (32 : Int) < ((T l).length : Int) := h
          have : (T l).length = l.length := rfl
          omega
        refine ⟨_, rfl, (by show LET.length + DIG.length ≤ _; decide +kernel), ?_⟩
        refine ⟨l, 0, LET ++ DIG, by rw [T_app] <;> rfl, hl, ?_⟩
        refine ⟨_, rfl, Nat.le_trans hl (by decide), rfl, ?_⟩
        refine k2 _ ?_
        unfold nameB
        rw [e, decide_eq_true h32]
        show decide _ = decide _
        rw [I_dec]
        have : (T l).length = l.length := rfl
        simp only [this, Nat.zero_add]
        by_cases z : run l 0 (LET ++ DIG) = l.length
        · rw [decide_eq_true z, decide_eq_true (by omega)]
        · rw [decide_eq_false z, decide_eq_false (by omega)]
def cnt58 (l : List Nat) : Int := Txt.count (T l) (T [58])
def sp_arity : Sp := fun vs H Q _ => ∃ (a : Nat) (r : List Nat) (n : Int), vs = [.str (T (a :: r))] ∧ r.length ≤ 100000 ∧ (a ∈ SGN → n = 1) ∧ (a ∉ SGN → n = cnt58 (a :: r)) ∧ Q (.int n) H
theorem ok_arity (W : Wd P K mg) : FnOk P w K mg base CX0 1 W.f_arity W.fd_arity ["selector"] sp_arity := by
  refine W.F_arity.ok sc_arity (fun vs H Q E h => ?_) (fun cdv A outer s H vs Q E hr h => ?_)
  · obtain ⟨a, r, n, rfl, _⟩ := h
    rfl
  · obtain ⟨a, r, n, rfl, hl, h1, h2, k⟩ := h
    have hu1 := hu_of hr
    have hu64 := hu64_of hr
    refine ⟨_, (pss_cons (ps_if (pt_cmpR (op_inU hu1) (pe_ix (ix_U hu1) (pv 0) pe_int (fun _ _ => rfl)) (pe_gs rfl W.g_SIGNS) (by first | exact nomark _ | rfl)) (pss_one (ps_ret pe_int)) pss_nil)
      (pss_one (ps_ret (pe_bm PySem.F.plainAttrs_str PySem.F.slot_str_count PySem.F.type_str_count mt_count (pv 0) (pa_cons (pe_strT (show (PySem.Str.ofString ":") = T [58] by decide +kernel)) pa_nil))))), ?_⟩
    refine ⟨_, rfl, _, a, rfl, (by show r.length + 1 ≤ sizeLine; rw [sizeLine_eq]; omega), atI_nat (xs := a :: r) (j := 0) rfl, ?_⟩
    refine Or.inl ⟨a, rfl, _, rfl, ?_⟩
    refine iteD (fun h => ?_) (fun h => ?_)
    · have := h1 h
      subst this
      exact k
    · have := h2 h
      subst this
      exact ⟨_, rfl, rfl, _, _, rfl, rfl, k⟩
def sp_letters : Sp := fun vs H Q _ => vs = [] ∧ Q (.str (T LET)) H
theorem ok__law_letters (W : Wd P K mg) : FnOk P w K mg base CX0 1 W.f__law_letters W.fd__law_letters [] sp_letters := by
  refine W.F__law_letters.ok sc__law_letters (fun vs H Q E h => ?_) (fun cdv A outer s H vs Q E hr h => ?_)
  · obtain ⟨rfl, _⟩ := h
    rfl
  · obtain ⟨rfl, k⟩ := h
    refine ⟨_, (pss_one (ps_ret (pe_strT e_LET))), ?_⟩
    exact k
def sp_start (K : PySem.W.Frag) : Sp := fun vs H Q _ => ∃ (a : Addr) (ns : List Int), vs = [.ref a] ∧ SqL K H a (ns.map V.int) ∧ ns.length ≤ 63 ∧ ∀ p H', H p = none → St K H' p → Same H H' → Q (.ref p) H'
theorem ok__law_start (W : Wd P K mg) : FnOk P w K mg base CX0 1 W.f__law_start W.fd__law_start ["_law_script"] (sp_start K) := by
  refine W.F__law_start.ok sc__law_start (fun vs H Q E h => ?_) (fun cdv A outer s H vs Q E hr h => ?_)
  · obtain ⟨a, ns, rfl, _⟩ := h
    rfl
  · obtain ⟨a, ns, rfl, hs, hl, k⟩ := h
    refine ⟨_, (pss_one (ps_ret (pe_lst (pa_cons (pv 0) (pa_cons pe_int (pa_cons pe_int (pa_cons pe_int pa_nil))))))), ?_⟩
    refine ⟨_, rfl, (by show 4 ≤ sizeLine; decide), fun p hp => ?_⟩
    have same : Same H (L2.upd H p (.lst [.ref a, .int 0, .int 0, .int 7])) := fun b u e => by rw [upd_ne (ne_of_none e hp)]; exact e
    exact k p _ hp ⟨a, ns, 0, 0, 7, upd_same, same.seq hs, hl, by decide, by decide, by decide⟩ same
end
section
variable {P : Program} {w : World} {K : PySem.W.Frag} {mg : Str → Option Value} {base : Heap}
theorem Tlen (l : List Nat) : (T l).length = l.length := rfl
theorem small {n : Nat} (h : n ≤ 100000) : n ≤ sizeLine := Nat.le_trans h (by decide)
/-- what the drawing helpers promise: a text with R, the state again -/
def sp_text (K : PySem.W.Frag) (R : List Nat → Prop) : Sp := fun vs H Q _ => ∃ p : Addr, vs = [.ref p] ∧ St K H p ∧ ∀ l H', R l → St K H' p → (∀ b, b ≠ p → H' b = H b) → Q (.str (T l)) H'
theorem rng62 {n : Int} (h0 : 0 ≤ n) (h : n ≤ 100000) : -(2 ^ 62) ≤ n ∧ n < 2 ^ 62 := by omega
theorem ok__law_name (W : Wd P K mg) : FnOk P w K mg base CX0 2 W.f__law_name W.fd__law_name ["_law_state"] (sp_text K Nm) := by
  refine W.F__law_name.ok sc__law_name (fun vs H Q E h => ?_) (fun cdv A outer s H vs Q E hr h => ?_)
  · obtain ⟨p, rfl, _⟩ := h
    rfl
  · obtain ⟨p, rfl, hS, k⟩ := h
    have hu1 := hu_of hr
    have hu64 := hu64_of hr
    refine ⟨_, (pss_cons (ps_set (i := 1) sc__law_name.nd rfl (by first | exact Or.inl rfl | exact Or.inr rfl) (pe_op op_addU pe_int (pe_call (ok__law_pick W) (hr.mono (by decide)) rfl W.g__law_pick W.F__law_pick.kp W.b__law_pick .nil pass0 (pa_cons (pv 0) (pa_cons pe_int pa_nil)))))
      (Evl.pss_cut (ps_if (pt_cmpR (op_eqU hu64) (pe_call (ok__law_pick W) (hr.mono (by decide)) rfl W.g__law_pick W.F__law_pick.kp W.b__law_pick .nil pass0 (pa_cons (pv 0) (pa_cons pe_int pa_nil))) pe_int (by first | exact nomark _ | rfl)) (pss_one (ps_set (i := 1) sc__law_name.nd rfl (by first | exact Or.inl rfl | exact Or.inr rfl) (pe_op op_addU pe_int (pe_call (ok__law_pick W) (hr.mono (by decide)) rfl W.g__law_pick W.F__law_pick.kp W.b__law_pick .nil pass0 (pa_cons (pv 0) (pa_cons pe_int pa_nil)))))) pss_nil)
      (pss_cons (ps_set (i := 2) sc__law_name.nd rfl (by first | exact Or.inl rfl | exact Or.inr rfl) (pe_ix (ix_U hu1) (pe_call0 (ok__law_letters W) (hr.mono (by decide)) rfl W.g__law_letters W.F__law_letters.kp W.b__law_letters .nil pass0 ) (pe_call (ok__law_pick W) (hr.mono (by decide)) rfl W.g__law_pick W.F__law_pick.kp W.b__law_pick .nil pass0 (pa_cons (pv 0) (pa_cons pe_int pa_nil))) (fun _ _ => rfl)))
      (pss_cons (ps_for PassesOwn.never rfl (pi_range1 (by rfl) W.n_range (pa_cons (pe_op op_sub (pv 1) pe_int) pa_nil)) (pg_name (i := 3) sc__law_name.nd rfl (by first | exact Or.inl rfl | exact Or.inr rfl)) (pss_one (ps_set (i := 2) sc__law_name.nd rfl (by first | exact Or.inl rfl | exact Or.inr rfl) (pe_op op_addU (pv 2) (pe_ix (ix_U hu1) (pe_op op_addU (pe_call0 (ok__law_letters W) (hr.mono (by decide)) rfl W.g__law_letters W.F__law_letters.kp W.b__law_letters .nil pass0 ) (pe_strT e_DIG)) (pe_call (ok__law_pick W) (hr.mono (by decide)) rfl W.g__law_pick W.F__law_pick.kp W.b__law_pick .nil pass0 (pa_cons (pv 0) (pa_cons pe_int pa_nil))) (fun _ _ => rfl))))))
      (pss_one (ps_ret (pv 2))))))), ?_⟩
    refine ⟨_, rfl, p, 4, rfl, hS, by decide, by decide, fun r1 H1 a1 b1 S1 s1 => ?_⟩
    refine ⟨fun σ H' => ∃ n : Int, σ = [some (.ref p), some (.int n), none, none] ∧ 1 ≤ n ∧ n ≤ 32 ∧ St K H' p ∧ ∀ b, b ≠ p → H' b = H b, ?_, ?_⟩
    · refine ⟨_, rfl, p, 8, rfl, S1, by decide, by decide, fun r2 H2 a2 b2 S2 s2 => ?_⟩
      have s12 : ∀ b, b ≠ p → H2 b = H b := fun b hb => (s2 b hb).trans (s1 b hb)
      refine ⟨rfl, _, rfl, ?_⟩
      refine ite_eq (I_dec r2 3) (iteD (fun h => ?_) (fun h => ?_))
      · refine ⟨_, rfl, p, 32, rfl, S2, by decide, by decide, fun r3 H3 a3 b3 S3 s3 => ?_⟩
        exact ⟨_, rfl, by omega, by omega, S3, fun b hb => (s3 b hb).trans (s12 b hb)⟩
      · exact ⟨_, rfl, by omega, by omega, S2, s12⟩
    · rintro σ H2 ⟨n, rfl, n1, n2, S2, s2⟩
      refine ⟨rfl, _, rfl, p, 52, rfl, S2, by decide, by decide, fun r3 H3 a3 b3 S3 s3 => ?_⟩
      obtain ⟨c, hc, hm⟩ := at_mem (l := LET) a3 b3 let_len
      refine ⟨r3, c, rfl, (by show LET.length ≤ _; rw [let_len]; exact small (by decide)), hc, ?_⟩
      obtain ⟨z1, z2⟩ := rng62 (n := n - 1) (by omega) (by omega)
      refine ⟨_, rfl, _, _, rfl, rfl, n - 1, rfl, z1, z2, ?_⟩
      refine for_range (lo := 0) (n := (n - 1).toNat) (fun i σ H' => ∃ (l : List Nat) (v : Option V), σ = [some (.ref p), some (.int n), some (.str (T l)), v] ∧ l.length = i + 1 ∧ (∃ r, l = c :: r) ∧ (∀ x ∈ l, x ∈ LET ++ DIG) ∧ St K H' p ∧ ∀ b, b ≠ p → H' b = H b)
        ⟨[c], _, rfl, rfl, ⟨[], rfl⟩, fun x hx => ?_, S3, fun b hb => (s3 b hb).trans (s2 b hb)⟩ ?_ ?_
      · have : x = c := by simpa using hx
        subst this
        exact List.mem_append_left _ hm
      · rintro i σ H' hi ⟨l, v, rfl, hl, ⟨r, rfl⟩, ha, S', s'⟩
        refine ⟨_, rfl, rfl, (by show LET.length + DIG.length ≤ _; decide +kernel), _, rfl, p, 62, rfl, S', by decide, by decide, fun r4 H4 a4 b4 S4 s4 => ?_⟩
        obtain ⟨x, hx, hxm⟩ := at_mem (l := LET ++ DIG) a4 b4 ld_len
        refine ⟨r4, x, rfl, (by rw [T_app]; exact small (by rw [Tlen, ld_len]; decide)), (by rw [T_app]; exact hx), ?_⟩
        refine ⟨(by show (c :: r).length + 1 ≤ sizeLine; exact small (by omega)), ?_⟩
        refine ⟨c :: r ++ [x], some (.int (0 + (i : Int))), ?_, by rw [List.length_append]; simp at hl ⊢; omega, ⟨r ++ [x], rfl⟩, fun y hy => ?_, S4, fun b hb => (s4 b hb).trans (s' b hb)⟩
        · show [some (V.ref p), some (.int n), some (.str (T (c :: r) ++ T [x])), _] = _
          rw [T_app]
        · rcases List.mem_append.mp hy with h | h
          · exact ha y h
          · have : y = x := by simpa using h
            subst this
            exact hxm
      · rintro σ H' ⟨l, v, rfl, hl, ⟨r, rfl⟩, ha, S', s'⟩
        refine ⟨_, rfl, k _ _ ⟨⟨c, r, rfl, hm⟩, by omega, ha⟩ S' s'⟩
theorem ok__law_string (W : Wd P K mg) : FnOk P w K mg base CX0 2 W.f__law_string W.fd__law_string ["_law_state"] (sp_text K fun l => l.length ≤ 100) := by
  refine W.F__law_string.ok sc__law_string (fun vs H Q E h => ?_) (fun cdv A outer s H vs Q E hr h => ?_)
  · obtain ⟨p, rfl, _⟩ := h
    rfl
  · obtain ⟨p, rfl, hS, k⟩ := h
    have hu1 := hu_of hr
    have hu64 := hu64_of hr
    refine ⟨_, (pss_cons (ps_set (i := 1) sc__law_string.nd rfl (by first | exact Or.inl rfl | exact Or.inr rfl) (pe_call (ok__law_pick W) (hr.mono (by decide)) rfl W.g__law_pick W.F__law_pick.kp W.b__law_pick .nil pass0 (pa_cons (pv 0) (pa_cons pe_int pa_nil))))
      (Evl.pss_cut (ps_if (pt_cmpR (op_eqU hu64) (pe_call (ok__law_pick W) (hr.mono (by decide)) rfl W.g__law_pick W.F__law_pick.kp W.b__law_pick .nil pass0 (pa_cons (pv 0) (pa_cons pe_int pa_nil))) pe_int (by first | exact nomark _ | rfl)) (pss_one (ps_set (i := 1) sc__law_string.nd rfl (by first | exact Or.inl rfl | exact Or.inr rfl) (pe_op op_addU pe_int (pe_call (ok__law_pick W) (hr.mono (by decide)) rfl W.g__law_pick W.F__law_pick.kp W.b__law_pick .nil pass0 (pa_cons (pv 0) (pa_cons pe_int pa_nil)))))) pss_nil)
      (pss_cons (ps_set (i := 2) sc__law_string.nd rfl (by first | exact Or.inl rfl | exact Or.inr rfl) (pe_op op_addU (pe_call0 (ok__law_letters W) (hr.mono (by decide)) rfl W.g__law_letters W.F__law_letters.kp W.b__law_letters .nil pass0 ) (pe_strT e_DIG)))
      (Evl.pss_cut (ps_if (pt_cmpR (op_eqU hu64) (pe_call (ok__law_pick W) (hr.mono (by decide)) rfl W.g__law_pick W.F__law_pick.kp W.b__law_pick .nil pass0 (pa_cons (pv 0) (pa_cons pe_int pa_nil))) pe_int (by first | exact nomark _ | rfl)) (pss_one (ps_set (i := 2) sc__law_string.nd rfl (by first | exact Or.inl rfl | exact Or.inr rfl) (pe_op op_addU (pv 2) (pe_strT (show (PySem.Str.ofString ": _-+'#.\n") = T [58, 32, 95, 45, 43, 39, 35, 46, 10] by decide +kernel))))) pss_nil)
      (pss_cons (ps_set (i := 3) sc__law_string.nd rfl (by first | exact Or.inl rfl | exact Or.inr rfl) (pe_strT (show (PySem.Str.ofString "") = T [] by decide +kernel)))
      (pss_cons (ps_for PassesOwn.never rfl (pi_range1 (by rfl) W.n_range (pa_cons (pv 1) pa_nil)) (pg_name (i := 4) sc__law_string.nd rfl (by first | exact Or.inl rfl | exact Or.inr rfl)) (pss_one (ps_set (i := 3) sc__law_string.nd rfl (by first | exact Or.inl rfl | exact Or.inr rfl) (pe_op op_addU (pv 3) (pe_ix (ix_U hu1) (pv 2) (pe_call (ok__law_pick W) (hr.mono (by decide)) rfl W.g__law_pick W.F__law_pick.kp W.b__law_pick .nil pass0 (pa_cons (pv 0) (pa_cons (pe_callB call_lenU (by rfl) W.n_len bb_len (pa_cons (pv 2) pa_nil)) pa_nil))) (fun _ _ => rfl))))))
      (pss_one (ps_ret (pv 3))))))))), ?_⟩
    refine ⟨_, rfl, p, 6, rfl, hS, by decide, by decide, fun r1 H1 a1 b1 S1 s1 => ?_⟩
    refine ⟨fun σ H' => ∃ n : Int, σ = [some (.ref p), some (.int n), none, none, none] ∧ 0 ≤ n ∧ n ≤ 36 ∧ St K H' p ∧ ∀ b, b ≠ p → H' b = H b, ?_, ?_⟩
    · refine ⟨_, rfl, p, 3, rfl, S1, by decide, by decide, fun r2 H2 a2 b2 S2 s2 => ?_⟩
      have s12 : ∀ b, b ≠ p → H2 b = H b := fun b hb => (s2 b hb).trans (s1 b hb)
      refine ⟨rfl, _, rfl, ?_⟩
      refine ite_eq (I_dec r2 0) (iteD (fun h => ?_) (fun h => ?_))
      · refine ⟨_, rfl, p, 9, rfl, S2, by decide, by decide, fun r3 H3 a3 b3 S3 s3 => ?_⟩
        exact ⟨_, rfl, by omega, by omega, S3, fun b hb => (s3 b hb).trans (s12 b hb)⟩
      · exact ⟨_, rfl, by omega, by omega, S2, s12⟩
    · rintro σ H2 ⟨n, rfl, n1, n2, S2, s2⟩
      refine ⟨rfl, (by show LET.length + DIG.length ≤ _; decide +kernel), ?_⟩
      refine ⟨fun σ H' => ∃ m : List Nat, σ = [some (.ref p), some (.int n), some (.str (T m)), none, none] ∧ m ≠ [] ∧ m.length ≤ 100 ∧ St K H' p ∧ ∀ b, b ≠ p → H' b = H b, ?_, ?_⟩
      · refine ⟨_, rfl, p, 2, rfl, S2, by decide, by decide, fun r3 H3 a3 b3 S3 s3 => ?_⟩
        have s23 : ∀ b, b ≠ p → H3 b = H b := fun b hb => (s3 b hb).trans (s2 b hb)
        refine ⟨rfl, _, rfl, ?_⟩
        refine ite_eq (I_dec r3 0) (iteD (fun h => ?_) (fun h => ?_))
        · refine ⟨_, rfl, ?_⟩
          rw [T_app]
          refine ⟨(by show (LET ++ DIG).length + _ ≤ _; decide +kernel), LET ++ DIG ++ [58, 32, 95, 45, 43, 39, 35, 46, 10], ?_, ?_, ?_, S3, s23⟩
          · rw [← T_app (LET ++ DIG)]; rfl
          · decide +kernel
          · decide +kernel
        · exact ⟨LET ++ DIG, by rw [T_app] <;> rfl, by decide +kernel, by decide +kernel, S3, s23⟩
      · rintro σ H3 ⟨m, rfl, m1, m2, S3, s3⟩
        obtain ⟨z1, z2⟩ := rng62 (n := n) (by omega) (by omega)
        refine ⟨_, rfl, n, rfl, z1, z2, ?_⟩
        refine for_range (lo := 0) (n := n.toNat) (fun i σ H' => ∃ (l : List Nat) (v : Option V), σ = [some (.ref p), some (.int n), some (.str (T m)), some (.str (T l)), v] ∧ l.length = i ∧ St K H' p ∧ ∀ b, b ≠ p → H' b = H b)
          ⟨[], _, rfl, rfl, S3, s3⟩ ?_ ?_
        · rintro i σ H' hi ⟨l, v, rfl, hl, S', s'⟩
          have hm0 : 0 < m.length := List.length_pos_iff.mpr m1
          refine ⟨_, rfl, _, rfl, _, rfl, _, rfl, small (by rw [Tlen]; omega), ?_⟩
          refine ⟨p, _, rfl, S', by rw [Tlen]; omega, by rw [Tlen]; omega, fun r4 H4 a4 b4 S4 s4 => ?_⟩
          obtain ⟨x, hx, _⟩ := at_mem (l := m) a4 b4 rfl
          refine ⟨r4, x, rfl, small (by rw [Tlen]; omega), hx, ?_⟩
          refine ⟨(by show l.length + 1 ≤ sizeLine; exact small (by omega)), ?_⟩
          refine ⟨l ++ [x], some (.int (0 + (i : Int))), ?_, by rw [List.length_append]; simp; omega, S4, fun b hb => (s4 b hb).trans (s' b hb)⟩
          show [some (V.ref p), some (.int n), some (.str (T m)), some (.str (T l ++ T [x])), _] = _
          rw [T_app]
        · rintro σ H' ⟨l, v, rfl, hl, S', s'⟩
          refine ⟨_, rfl, k _ _ (by omega) S' s'⟩
end
section
variable {P : Program} {w : World} {K : PySem.W.Frag} {mg : Str → Option Value} {base : Heap}
def okAt (i c : Nat) : Prop := c ∈ LET ∨ (i ≠ 0 ∧ c ∈ DIG)
theorem nameB_all {l : List Nat} (h0 : l ≠ []) (h1 : l.length ≤ 32) (h : ∀ j c, l[j]? = some c → okAt j c) : nameB l = true := by
  refine (nameB_iff l).mpr ⟨?_, h1, fun x hx => ?_⟩
  · cases l with
    | nil => exact absurd rfl h0
    | cons a r =>
      refine ⟨a, r, rfl, ?_⟩
      rcases h 0 a rfl with z | ⟨z, _⟩
      · exact z
      · exact absurd rfl z
  · obtain ⟨j, hj⟩ := List.mem_iff_getElem?.mp hx
    rcases h j x hj with z | ⟨_, z⟩
    · exact List.mem_append_left _ z
    · exact List.mem_append_right _ z
theorem dig_let : ∀ c ∈ DIG, c ∉ LET := by decide +kernel
theorem nameB_no {l : List Nat} {j c : Nat} (hj : l[j]? = some c) (h : ¬ okAt j c) : nameB l = false := by
  cases e : nameB l with
  | false => rfl
  | true =>
    exfalso
    obtain ⟨⟨a, r, hl, ha⟩, _, hall⟩ := (nameB_iff l).mp e
    apply h
    have hc := hall c (List.mem_of_getElem? hj)
    rcases List.mem_append.mp hc with z | z
    · exact Or.inl z
    · refine Or.inr ⟨fun h0 => ?_, z⟩
      subst h0
      rw [hl] at hj
      have : a = c := Option.some.inj hj
      subst this
      exact dig_let _ z ha
theorem ok__law_is_name (W : Wd P K mg) : FnOk P w K mg base CX0 2 W.f__law_is_name W.fd__law_is_name ["_law_string_here"] sp_is_name := by
  refine W.F__law_is_name.ok sc__law_is_name (fun vs H Q E h => ?_) (fun cdv A outer s H vs Q E hr h => ?_)
  · obtain ⟨l, rfl, _⟩ := h
    rfl
  · obtain ⟨l, rfl, hl, k⟩ := h
    have hu1 := hu_of hr
    have hu64 := hu64_of hr
    have k2 : ∀ b, nameB l = b → Q (.bl b) H := fun b e => by rw [← e]; exact k
    refine ⟨_, (pss_cons (ps_if (PW.pt (pw_or (pt_cmpR (op_eqU hu64) (pe_callB call_lenU (by rfl) W.n_len bb_len (pa_cons (pv 0) pa_nil)) pe_int (by first | exact nomark _ | rfl)) (pw_or1 (pt_cmpR op_gtU (pe_callB call_lenU (by rfl) W.n_len bb_len (pa_cons (pv 0) pa_nil)) pe_int (by first | exact nomark _ | rfl))))) (pss_one (ps_ret pe_bl)) pss_nil)
      (pss_cons (ps_for PassesOwn.never rfl (pi_range1 (by rfl) W.n_range (pa_cons (pe_callB call_lenU (by rfl) W.n_len bb_len (pa_cons (pv 0) pa_nil)) pa_nil)) (pg_name (i := 1) sc__law_is_name.nd rfl (by first | exact Or.inl rfl | exact Or.inr rfl)) (pss_one (ps_if (PW.pt (pw_and (pt_cmpR (op_ninU hu1) (pe_ix (ix_U hu1) (pv 0) (pv 1) (fun _ _ => rfl)) (pe_call0 (ok__law_letters W) (hr.mono (by decide)) rfl W.g__law_letters W.F__law_letters.kp W.b__law_letters .nil pass0 ) (by first | exact nomark _ | rfl)) (pw_and1 (PW.pt (pw_or (pt_cmpR (op_eqU hu64) (pv 1) pe_int (by first | exact nomark _ | rfl)) (pw_or1 (pt_cmpR (op_ninU hu1) (pe_ix (ix_U hu1) (pv 0) (pv 1) (fun _ _ => rfl)) (pe_strT e_DIG) (by first | exact nomark _ | rfl)))))))) (pss_one (ps_ret pe_bl)) pss_nil)))
      (pss_one (ps_ret pe_bl)))), ?_⟩
    refine ⟨_, rfl, small hl, rfl, _, rfl, ?_⟩
    refine ite_eq (I_dec _ 0) (iteD (fun h => ?_) (fun h => ?_))
    · refine iteT (k2 false ?_)
      have : l = [] := List.length_eq_zero_iff.mp (by have : ((T l).length : Int) = 0 := h; rw [Tlen] at this; omega)
      subst this
      rfl
    · have hne : l ≠ [] := fun z => h (by subst z; rfl)
      refine ⟨_, rfl, small hl, _, rfl, ?_⟩
      refine iteD (fun h2 => ?_) (fun h2 => ?_)
      · refine k2 false ?_
        have : ¬ l.length ≤ 32 := by have h2 : (32 : Int) < ((T l).length : Int) := h2; rw [Tlen] at h2; omega
        unfold nameB
        rw [decide_eq_false this, Bool.and_false, Bool.false_and]
      · have h32 : l.length ≤ 32 := by have h2 : ¬ (32 : Int) < ((T l).length : Int) := h2; rw [Tlen] at h2; omega
        refine ⟨_, rfl, small hl, (l.length : Int), rfl, by omega, by omega, ?_⟩
        rw [Int.toNat_natCast]
        refine for_range (lo := 0) (n := l.length) (fun i σ H' => (∃ v : Option V, σ = [some (.str (T l)), v]) ∧ H' = H ∧ ∀ j c, j < i → l[j]? = some c → okAt j c)
          ⟨⟨_, rfl⟩, rfl, fun j c hj => absurd hj (Nat.not_lt_zero _)⟩ ?_ ?_
        · rintro i σ H' hi ⟨⟨v, rfl⟩, rfl, hall⟩
          have hx : l[i]? = some l[i] := List.getElem?_eq_getElem hi
          have hat : atI l (0 + (i : Int)) = some l[i] := by rw [Int.zero_add]; exact atI_nat hx
          have fin : okAt i l[i] → (∃ v : Option V, [some (.str (T l)), some (V.int (0 + (i : Int)))] = [some (.str (T l)), v]) ∧ H' = H' ∧ ∀ j c, j < i + 1 → l[j]? = some c → okAt j c := fun ho =>
            ⟨⟨_, rfl⟩, rfl, fun j c hj hc => by
              by_cases e : j = i
              · subst e
                rw [hx] at hc
                cases hc
                exact ho
              · exact hall j c (by omega) hc⟩
          refine ⟨_, rfl, _, rfl, _, l[i], rfl, small hl, hat, ?_⟩
          refine ⟨rfl, Or.inl ⟨l[i], rfl, _, rfl, ?_⟩⟩
          refine iteND (fun hn => ?_) (fun hy => ?_)
          · refine ⟨_, rfl, rfl, _, rfl, ?_⟩
            refine ite_eq (I_dec _ 0) (iteD (fun h0 => ?_) (fun h0 => ?_))
            · refine iteT (k2 false (nameB_no hx fun z => ?_))
              rcases z with z | ⟨z, _⟩
              · exact hn z
              · omega
            · refine ⟨_, rfl, _, rfl, _, l[i], rfl, small hl, hat, ?_⟩
              refine Or.inl ⟨l[i], rfl, _, rfl, ?_⟩
              refine iteND (fun hd => ?_) (fun hd => ?_)
              · refine k2 false (nameB_no hx fun z => ?_)
                rcases z with z | ⟨_, z⟩
                · exact hn z
                · exact hd z
              · exact fin (Or.inr ⟨by omega, hd⟩)
          · exact fin (Or.inl hy)
        · rintro σ H' ⟨⟨v, rfl⟩, rfl, hall⟩
          exact k2 true (nameB_all hne h32 fun j c hj => hall j c (List.getElem?_eq_some_iff.mp hj).1 hj)
/-! ### selectors -/
theorem cnt_is (l : List Nat) : cnt58 l = PyProof.Rows.cnt 58 l := PyProof.Rows.count_cnt (T l) 58
theorem cnt_app (a b : List Nat) : PyProof.Rows.cnt 58 (a ++ b) = PyProof.Rows.cnt 58 a + PyProof.Rows.cnt 58 b := by
  induction a with
  | nil => rw [List.nil_append, PyProof.Rows.cnt_nil, Int.zero_add]
  | cons x r ih => rw [List.cons_append, PyProof.Rows.cnt_cons, PyProof.Rows.cnt_cons, ih, Int.add_assoc]
theorem cnt_no {l : List Nat} (h : ∀ x ∈ l, x ≠ 58) : PyProof.Rows.cnt 58 l = 0 := by
  induction l with
  | nil => rfl
  | cons x r ih =>
    rw [PyProof.Rows.cnt_cons, if_neg (h x List.mem_cons_self), ih fun y hy => h y (List.mem_cons_of_mem _ hy)]
    rfl
theorem Nm.cnt {l : List Nat} (h : Nm l) : PyProof.Rows.cnt 58 l = 0 := cnt_no fun x hx => ld_58 x (h.all x hx)
def Sel (l : List Nat) (n : Int) : Prop := ∃ a r, l = a :: r ∧ r.length ≤ 1000 ∧ (a ∈ SGN → n = 1) ∧ (a ∉ SGN → n = cnt58 (a :: r))
theorem Nm.sel {l : List Nat} (h : Nm l) : Sel l 0 := by
  obtain ⟨a, r, rfl, ha⟩ := h.hd
  refine ⟨a, r, rfl, by have := h.len; simp at this; omega, fun z => absurd z (let_sgn a ha), fun _ => ?_⟩
  rw [cnt_is, h.cnt]
def sp_sel (K : PySem.W.Frag) : Sp := fun vs H Q _ => ∃ p : Addr, vs = [.ref p] ∧ St K H p ∧ ∀ l n q H', Sel l n → St K H' p → H' q = some (.tup [.str (T l), .int n]) → Q (.ref q) H'
theorem ok__law_selector (W : Wd P K mg) : FnOk P w K mg base CX0 3 W.f__law_selector W.fd__law_selector ["_law_state"] (sp_sel K) := by
  refine W.F__law_selector.ok sc__law_selector (fun vs H Q E h => ?_) (fun cdv A outer s H vs Q E hr h => ?_)
  · obtain ⟨p, rfl, _⟩ := h
    rfl
  · obtain ⟨p, rfl, hS, k⟩ := h
    have hu1 := hu_of hr
    have hu64 := hu64_of hr
    refine ⟨_, (pss_cons (ps_set (i := 1) sc__law_selector.nd rfl (by first | exact Or.inl rfl | exact Or.inr rfl) (pe_call (ok__law_pick W) (hr.mono (by decide)) rfl W.g__law_pick W.F__law_pick.kp W.b__law_pick .nil pass0 (pa_cons (pv 0) (pa_cons pe_int pa_nil))))
      (pss_cons (ps_if (pt_cmpR (op_eqU hu64) (pv 1) pe_int (by first | exact nomark _ | rfl)) (pss_one (ps_ret (pe_tup (pa_cons (pe_call (ok__law_name W) (hr.mono (by decide)) rfl W.g__law_name W.F__law_name.kp W.b__law_name .nil pass0 (pa_cons (pv 0) pa_nil)) (pa_cons pe_int pa_nil))))) pss_nil)
      (pss_cons (ps_if (pt_cmpR (op_eqU hu64) (pv 1) pe_int (by first | exact nomark _ | rfl)) (pss_cons (ps_set (i := 2) sc__law_selector.nd rfl (by first | exact Or.inl rfl | exact Or.inr rfl) (pe_strT (show (PySem.Str.ofString "") = T [] by decide +kernel)))
      (pss_cons (ps_for PassesOwn.never rfl (pi_range1 (by rfl) W.n_range (pa_cons (pe_op op_addU pe_int (pe_call (ok__law_pick W) (hr.mono (by decide)) rfl W.g__law_pick W.F__law_pick.kp W.b__law_pick .nil pass0 (pa_cons (pv 0) (pa_cons pe_int pa_nil)))) pa_nil)) (pg_name (i := 3) sc__law_selector.nd rfl (by first | exact Or.inl rfl | exact Or.inr rfl)) (pss_one (ps_set (i := 2) sc__law_selector.nd rfl (by first | exact Or.inl rfl | exact Or.inr rfl) (pe_op op_addU (pv 2) (pe_ix (ix_U hu1) (pe_strT e_SGN) (pe_call (ok__law_pick W) (hr.mono (by decide)) rfl W.g__law_pick W.F__law_pick.kp W.b__law_pick .nil pass0 (pa_cons (pv 0) (pa_cons pe_int pa_nil))) (fun _ _ => rfl))))))
      (pss_one (ps_ret (pe_tup (pa_cons (pv 2) (pa_cons pe_int pa_nil))))))) pss_nil)
      (pss_cons (ps_set (i := 4) sc__law_selector.nd rfl (by first | exact Or.inl rfl | exact Or.inr rfl) (pe_op op_addU pe_int (pe_call (ok__law_pick W) (hr.mono (by decide)) rfl W.g__law_pick W.F__law_pick.kp W.b__law_pick .nil pass0 (pa_cons (pv 0) (pa_cons pe_int pa_nil)))))
      (Evl.pss_cut (ps_if (pt_cmpR (op_eqU hu64) (pe_call (ok__law_pick W) (hr.mono (by decide)) rfl W.g__law_pick W.F__law_pick.kp W.b__law_pick .nil pass0 (pa_cons (pv 0) (pa_cons pe_int pa_nil))) pe_int (by first | exact nomark _ | rfl)) (pss_one (ps_set (i := 4) sc__law_selector.nd rfl (by first | exact Or.inl rfl | exact Or.inr rfl) (pe_op op_addU pe_int (pe_call (ok__law_pick W) (hr.mono (by decide)) rfl W.g__law_pick W.F__law_pick.kp W.b__law_pick .nil pass0 (pa_cons (pv 0) (pa_cons pe_int pa_nil)))))) pss_nil)
      (pss_cons (ps_set (i := 2) sc__law_selector.nd rfl (by first | exact Or.inl rfl | exact Or.inr rfl) (pe_strT (show (PySem.Str.ofString "") = T [] by decide +kernel)))
      (pss_cons (ps_for PassesOwn.never rfl (pi_range1 (by rfl) W.n_range (pa_cons (pv 4) pa_nil)) (pg_name (i := 3) sc__law_selector.nd rfl (by first | exact Or.inl rfl | exact Or.inr rfl)) (pss_one (ps_set (i := 2) sc__law_selector.nd rfl (by first | exact Or.inl rfl | exact Or.inr rfl) (pe_op op_addU (pe_op op_addU (pv 2) (pe_call (ok__law_name W) (hr.mono (by decide)) rfl W.g__law_name W.F__law_name.kp W.b__law_name .nil pass0 (pa_cons (pv 0) pa_nil))) (pe_strT (show (PySem.Str.ofString ":") = T [58] by decide +kernel))))))
      (pss_one (ps_ret (pe_tup (pa_cons (pv 2) (pa_cons (pv 4) pa_nil)))))))))))), ?_⟩
    refine ⟨_, rfl, p, 3, rfl, hS, by decide, by decide, fun r1 H1 a1 b1 S1 s1 => ?_⟩
    refine ⟨_, rfl, rfl, _, rfl, ?_⟩
    refine ite_eq (I_dec r1 0) (iteD (fun h => ?_) (fun h => ?_))
    · refine ⟨_, rfl, p, rfl, S1, fun l H2 hl S2 s2 => ?_⟩
      refine ⟨(by show 2 ≤ sizeLine; decide), fun q hq => ?_⟩
      exact k l 0 q _ hl.sel (S2.new hq) upd_same
    · refine ⟨_, rfl, rfl, _, rfl, ?_⟩
      refine ite_eq (I_dec r1 1) (iteD (fun h1 => ?_) (fun h1 => ?_))
      · refine ⟨_, rfl, p, 2, rfl, S1, by decide, by decide, fun r2 H2 a2 b2 S2 s2 => ?_⟩
        refine ⟨1 + r2, rfl, by omega, by omega, ?_⟩
        refine for_range (lo := 0) (n := (1 + r2).toNat) (fun i σ H' => ∃ (l : List Nat) (v : Option V), σ = [some (.ref p), some (.int r1), some (.str (T l)), v, none] ∧ l.length = i ∧ (∀ x ∈ l, x ∈ SGN) ∧ St K H' p)
          ⟨[], _, rfl, rfl, fun x hx => absurd hx (by simp), S2⟩ ?_ ?_
        · rintro i σ H' hi ⟨l, v, rfl, hl, ha, S'⟩
          refine ⟨_, rfl, _, rfl, p, 11, rfl, S', by decide, by decide, fun r4 H4 a4 b4 S4 s4 => ?_⟩
          obtain ⟨x, hx, hxm⟩ := at_mem (l := SGN) a4 b4 sgn_len
          refine ⟨r4, x, rfl, small (by rw [Tlen]; decide +kernel), hx, ?_⟩
          refine ⟨(by show l.length + 1 ≤ sizeLine; exact small (by omega)), ?_⟩
          refine ⟨l ++ [x], some (.int (0 + (i : Int))), ?_, by rw [List.length_append]; simp; omega, fun y hy => ?_, S4⟩
          · show [some (V.ref p), some (.int r1), some (.str (T l ++ T [x])), some (.int (0 + (i : Int))), none] = _
            rw [T_app]
          · rcases List.mem_append.mp hy with h | h
            · exact ha y h
            · have : y = x := by simpa using h
              subst this
              exact hxm
        · rintro σ H' ⟨l, v, rfl, hl, ha, S'⟩
          refine ⟨_, rfl, (by show 2 ≤ sizeLine; decide), fun q hq => ?_⟩
          refine k l 1 q _ ?_ (S'.new hq) upd_same
          cases l with
          | nil => simp at hl; omega
          | cons a r => exact ⟨a, r, rfl, by simp at hl; omega, fun _ => rfl, fun z => absurd (ha a List.mem_cons_self) z⟩
      · refine ⟨_, rfl, p, 3, rfl, S1, by decide, by decide, fun r2 H2 a2 b2 S2 s2 => ?_⟩
        refine ⟨fun σ H' => ∃ n : Int, σ = [some (.ref p), some (.int r1), none, none, some (.int n)] ∧ 1 ≤ n ∧ n ≤ 15 ∧ St K H' p, ?_, ?_⟩
        · refine ⟨_, rfl, p, 4, rfl, S2, by decide, by decide, fun r3 H3 a3 b3 S3 s3 => ?_⟩
          refine ⟨rfl, _, rfl, ?_⟩
          refine ite_eq (I_dec r3 1) (iteD (fun h => ?_) (fun h => ?_))
          · refine ⟨_, rfl, p, 15, rfl, S3, by decide, by decide, fun r4 H4 a4 b4 S4 s4 => ?_⟩
            exact ⟨_, rfl, by omega, by omega, S4⟩
          · exact ⟨_, rfl, by omega, by omega, S3⟩
        · rintro σ H3 ⟨n, rfl, n1, n2, S3⟩
          refine ⟨_, rfl, n, rfl, by omega, by omega, ?_⟩
          refine for_range (lo := 0) (n := n.toNat) (fun i σ H' => ∃ (l : List Nat) (v : Option V), σ = [some (.ref p), some (.int r1), some (.str (T l)), v, some (.int n)] ∧ l.length ≤ 33 * i ∧ PyProof.Rows.cnt 58 l = (i : Int) ∧ (0 < i → ∃ a r, l = a :: r ∧ a ∈ LET) ∧ St K H' p)
            ⟨[], _, rfl, by simp, rfl, fun z => absurd z (Nat.lt_irrefl _), S3⟩ ?_ ?_
          · rintro i σ H' hi ⟨l, v, rfl, hl, hc, hh, S'⟩
            refine ⟨_, rfl, _, rfl, p, rfl, S', fun m H4 hm S4 s4 => ?_⟩
            have hml := hm.len
            refine ⟨(by show l.length + m.length ≤ sizeLine; exact small (by omega)), ?_⟩
            rw [T_app]
            refine ⟨(by show (l ++ m).length + 1 ≤ sizeLine; rw [List.length_append]; exact small (by omega)), ?_⟩
            refine ⟨l ++ m ++ [58], some (.int (0 + (i : Int))), ?_, by simp only [List.length_append, List.length_cons, List.length_nil]; omega, ?_, fun _ => ?_, S4⟩
            · show [some (V.ref p), some (.int r1), some (.str (T (l ++ m) ++ T [58])), some (.int (0 + (i : Int))), some (.int n)] = _
              rw [T_app]
            · rw [cnt_app, cnt_app, hc, hm.cnt, PyProof.Rows.cnt_cons, if_pos rfl, PyProof.Rows.cnt_nil]
              omega
            · cases i with
              | zero =>
                obtain ⟨a, r, rfl, ha⟩ := hm.hd
                have : l = [] := List.length_eq_zero_iff.mp (by omega)
                subst this
                exact ⟨a, r ++ [58], rfl, ha⟩
              | succ i =>
                obtain ⟨a, r, rfl, ha⟩ := hh (Nat.succ_pos _)
                exact ⟨a, r ++ m ++ [58], rfl, ha⟩
          · rintro σ H' ⟨l, v, rfl, hl, hc, hh, S'⟩
            refine ⟨_, rfl, _, rfl, (by show 2 ≤ sizeLine; decide), fun q hq => ?_⟩
            refine k l n q _ ?_ (S'.new hq) upd_same
            obtain ⟨a, r, rfl, ha⟩ := hh (by omega)
            exact ⟨a, r, rfl, by simp at hl; omega, fun z => absurd z (let_sgn a ha), fun _ => by rw [cnt_is, hc]; omega⟩
def sp_law (K : PySem.W.Frag) : Sp := fun vs H Q _ => ∃ (a : Addr) (ns : List Int), vs = [.ref a] ∧ SqL K H a (ns.map V.int) ∧ ns.length ≤ 63 ∧ ∀ H', Q (.bl true) H'
theorem ok_law (W : Wd P K mg) : FnOk P w K mg base CX0 4 W.f_law W.fd_law ["_law_script"] (sp_law K) := by
  refine W.F_law.ok sc_law (fun vs H Q E h => ?_) (fun cdv A outer s H vs Q E hr h => ?_)
  · obtain ⟨a, ns, rfl, _⟩ := h
    rfl
  · obtain ⟨a, ns, rfl, hs, hl, k⟩ := h
    have hu1 := hu_of hr
    have hu64 := hu64_of hr
    refine ⟨_, (pss_cons (ps_set (i := 1) sc_law.nd rfl (by first | exact Or.inl rfl | exact Or.inr rfl) (pe_call (ok__law_start W) (hr.mono (by decide)) rfl W.g__law_start W.F__law_start.kp W.b__law_start .nil pass0 (pa_cons (pv 0) pa_nil)))
      (pss_cons (ps_for PassesOwn.never rfl (pi_range1 (by rfl) W.n_range (pa_cons pe_int pa_nil)) (pg_name (i := 2) sc_law.nd rfl (by first | exact Or.inl rfl | exact Or.inr rfl)) (pss_cons (ps_set (i := 3) sc_law.nd rfl (by first | exact Or.inl rfl | exact Or.inr rfl) (pe_call (ok__law_string W) (hr.mono (by decide)) rfl W.g__law_string W.F__law_string.kp W.b__law_string .nil pass0 (pa_cons (pv 1) pa_nil)))
      (pss_cons (ps_set (i := 4) sc_law.nd rfl (by first | exact Or.inl rfl | exact Or.inr rfl) (pe_call (ok_is_name W) (hr.mono (by decide)) rfl W.g_is_name W.F_is_name.kp W.b_is_name .nil pass0 (pa_cons (pv 3) pa_nil)))
      (pss_cons (ps_if (PW.pt (pw_or (pt_not (pt_truth (pe_callB call_isi (by rfl) W.n_isinstance bb_isinstance (pa_cons (pv 4) (pa_cons (pe_bt rfl W.n_bool bb_bool) pa_nil))) (by intro _; rfl))) (pw_or1 (pt_cmpR (op_neU hu64) (pv 4) (pe_call (ok__law_is_name W) (hr.mono (by decide)) rfl W.g__law_is_name W.F__law_is_name.kp W.b__law_is_name .nil pass0 (pa_cons (pv 3) pa_nil)) (by first | exact nomark _ | rfl))))) (pss_one (ps_ret pe_bl)) pss_nil)
      (pss_cons (ps_set (i := 5) sc_law.nd rfl (by first | exact Or.inl rfl | exact Or.inr rfl) (pe_call (ok__law_name W) (hr.mono (by decide)) rfl W.g__law_name W.F__law_name.kp W.b__law_name .nil pass0 (pa_cons (pv 1) pa_nil)))
      (pss_cons (ps_if (pt_cmpR op_isnotU (pe_call (ok_is_name W) (hr.mono (by decide)) rfl W.g_is_name W.F_is_name.kp W.b_is_name .nil pass0 (pa_cons (pv 5) pa_nil)) pe_bl (by first | exact nomark _ | rfl)) (pss_one (ps_ret pe_bl)) pss_nil)
      (pss_cons (ps_asg (pe_call (ok__law_selector W) (hr.mono (by decide)) rfl W.g__law_selector W.F__law_selector.kp W.b__law_selector .nil pass0 (pa_cons (pv 1) pa_nil)) (pg_tup rfl (pgs_cons (pg_name (i := 7) sc_law.nd rfl (by first | exact Or.inl rfl | exact Or.inr rfl)) (pgs_cons (pg_name (i := 8) sc_law.nd rfl (by first | exact Or.inl rfl | exact Or.inr rfl)) pgs_nil))))
      (pss_cons (ps_set (i := 6) sc_law.nd rfl (by first | exact Or.inl rfl | exact Or.inr rfl) (pe_call (ok_arity W) (hr.mono (by decide)) rfl W.g_arity W.F_arity.kp W.b_arity .nil pass0 (pa_cons (pv 7) pa_nil)))
      (pss_one (ps_if (PW.pt (pw_or (pt_not (pt_truth (pe_callB call_isi (by rfl) W.n_isinstance bb_isinstance (pa_cons (pv 6) (pa_cons (pe_bt rfl W.n_int bb_int) pa_nil))) (by intro _; rfl))) (pw_or (pt_truth (pe_callB call_isi (by rfl) W.n_isinstance bb_isinstance (pa_cons (pv 6) (pa_cons (pe_bt rfl W.n_bool bb_bool) pa_nil))) (by intro _; rfl)) (pw_or1 (pt_cmpR (op_neU hu64) (pv 6) (pv 8) (by first | exact nomark _ | rfl)))))) (pss_one (ps_ret pe_bl)) pss_nil))))))))))
      (pss_one (ps_ret pe_bl)))), ?_⟩
    refine ⟨_, rfl, a, ns, rfl, hs, hl, fun p H1 hp S1 same => ?_⟩
    refine ⟨4, rfl, by decide, by decide, ?_⟩
    refine for_range (lo := 0) (n := 4) (fun i σ H' => (∃ v2 v3 v4 v5 v6 v7 v8 : Option V, σ = [some (.ref a), some (.ref p), v2, v3, v4, v5, v6, v7, v8]) ∧ St K H' p) ⟨⟨_, _, _, _, _, _, _, rfl⟩, S1⟩ ?_ ?_
    · rintro i σ H' hi ⟨⟨v2, v3, v4, v5, v6, v7, v8, rfl⟩, S'⟩
      refine ⟨_, rfl, p, rfl, S', fun l H2 hl2 S2 s2 => ?_⟩
      refine ⟨_, rfl, l, rfl, Nat.le_trans hl2 (by decide), ?_⟩
      refine ⟨_, rfl, _, _, _, _, _, rfl, ClsV.ty _, TyX.base (TyOf.bl _), kt_bool_bool, ?_⟩
      refine ⟨_, rfl, iteF ?_⟩
      refine ⟨_, rfl, _, rfl, l, rfl, Nat.le_trans hl2 (by decide), ?_⟩
      refine ⟨rfl, _, rfl, ?_⟩
      refine iteND (fun h => absurd rfl h) (fun _ => ?_)
      refine ⟨_, rfl, p, rfl, S2, fun m H3 hm S3 s3 => ?_⟩
      refine ⟨_, rfl, m, rfl, Nat.le_trans hm.len (by decide), ?_⟩
      rw [hm.b]
      refine ⟨_, rfl, iteF ?_⟩
      refine ⟨_, rfl, p, rfl, S3, fun t n q H4 hsel S4 hq => ?_⟩
      refine ⟨q, _, rfl, SqT.of hq, rfl, _, _, rfl, _, _, rfl, rfl, ?_⟩
      obtain ⟨c, r, rfl, hrl, c1, c2⟩ := hsel
      refine ⟨_, rfl, c, r, n, rfl, Nat.le_trans hrl (by decide), c1, c2, ?_⟩
      refine ⟨_, rfl, _, _, _, _, _, rfl, ClsV.ty _, TyX.base (TyOf.int _), kt_int_int, ?_⟩
      refine ⟨_, rfl, iteF ?_⟩
      refine ⟨_, rfl, _, _, _, _, _, rfl, ClsV.ty _, TyX.base (TyOf.int _), kt_int_bool, ?_⟩
      refine ⟨_, rfl, iteF ?_⟩
      refine ⟨_, rfl, _, rfl, rfl, _, rfl, ?_⟩
      refine iteND (fun h => absurd rfl h) (fun _ => ?_)
      exact ⟨⟨_, _, _, _, _, _, _, rfl⟩, S4⟩
    · rintro σ H' _
      exact k H'
end

end LX
namespace LX
open PySem PySem.Spec PyProof.Rows L2 NdefX

theorem all_mk {l : PySem.W.OpenLaw} {w : World} {K : PySem.W.Frag} {mg : Str → Option Value} {fa : Addr} (W : Wd l.prog K mg) (hfa : mg "law" = some (.ref fa)) :
    ∃ fd : FuncData, (∀ (s : Shared) (v : Value), BindsTo s fd ⟨[v], []⟩ [("_law_script", v)]) ∧ ∀ base : Heap, K.In base → base.Ns mainGlobals mg → FnOk l.prog w K mg base CX0 4 fa fd ["_law_script"] (sp_law K) := by
  have e := hfa.symm.trans W.g_law
  cases e
  obtain ⟨oc, od, kV, doc, pm, an, cdv, ct, osl, e, _, _⟩ := W.F_law.ex
  exact ⟨W.fd_law, fun s v => by rw [e]; exact .of_eq rfl, fun base _ _ => ok_law W⟩
theorem walk {l : PySem.W.OpenLaw} {q : Program} {loose : List Str} {XP : (Str → Option Value) → Heap → Prop} {YP : World → Heap → Prop} {d : DefRec} {K : Params → PySem.W.Frag} (hn : l.most = some 63) (hdf : d.params.defaults = [])
    (hY : ∀ (w : World) (h : Heap), YP w h → (K w.params).In h)
    (F : ∀ (w : World) (mg : Str → Option Value) (fa : Addr) (h : Heap), (K w.params).In h → h.Ns mainGlobals mg → mg d.name = some (.ref fa) →
      ∃ fd : FuncData, (∀ (s : Shared) (u : Value), BindsTo s fd ⟨[u], []⟩ [("_law_script", u)]) ∧ ∀ base : Heap, (K w.params).In base → base.Ns mainGlobals mg → FnOk l.prog w (K w.params) mg base CX0 4 fa fd ["_law_script"] (sp_law (K w.params))) :
    PySem.W.WalkO q loose XP YP l.row.toRowW d [] (fun f vs => PySem.call f vs) :=
  L2.walk_of (n := 63) (k := 4) (x := "_law_script") (CX := fun _ => CX0) (sp := fun w => sp_law (K w.params)) hn (by decide) hdf ⟨rfl, by decide, by decide⟩ hY F (fun _ _ a ns hl _ hS => ⟨a, ns, rfl, hS, hl, fun _ => rfl⟩) fun _ _ _ _ _ z => z

end LX

open PySem PySem.W PyProof.Rows
set_option maxRecDepth 100000 in
set_option maxHeartbeats 0 in
theorem PySem.Challenge.cw_saggar_k10_names_and_selectors_holds : PySem.Challenge.rw_saggar_k10_names_and_selectors.Holds := by
  w_on; o_law; k_head; (case hw => w_witness2)
  k_fill
  refine LX.walk (l := PySem.Challenge.rw_saggar_k10_names_and_selectors) rfl rfl (fun w h Y => PySem.W.kIn_of Y) ?F
  case F =>
    intro w mg fa h KX G hmg
    refine' LX.all_mk (l := PySem.Challenge.rw_saggar_k10_names_and_selectors) (LX.mkW KX G ?z_abs ?z_bool ?z_int ?z_isinstance ?z_len ?z_range ?c_MOST_NAME ?c_LETTERS ?c_DIGITS ?c_SIGNS ?a_char_at ?l_char_at ?c_char_at ?k_char_at ?a_is_in ?l_is_in ?c_is_in ?k_is_in ?a_end_of ?l_end_of ?c_end_of ?k_end_of ?a_is_name ?l_is_name ?c_is_name ?k_is_name ?a_arity ?l_arity ?c_arity ?k_arity ?a__law_start ?l__law_start ?c__law_start ?k__law_start ?a__law_pick ?l__law_pick ?c__law_pick ?k__law_pick ?a__law_letters ?l__law_letters ?c__law_letters ?k__law_letters ?a__law_string ?l__law_string ?c__law_string ?k__law_string ?a__law_is_name ?l__law_is_name ?c__law_is_name ?k__law_is_name ?a__law_name ?l__law_name ?c__law_name ?k__law_name ?a__law_selector ?l__law_selector ?c__law_selector ?k__law_selector ?a_law ?l_law ?c_law ?k_law) hmg
    (case z_abs => first | k_is | ks_is | rfl | decide +kernel)
    (case z_bool => first | k_is | ks_is | rfl | decide +kernel)
    (case z_int => first | k_is | ks_is | rfl | decide +kernel)
    (case z_isinstance => first | k_is | ks_is | rfl | decide +kernel)
    (case z_len => first | k_is | ks_is | rfl | decide +kernel)
    (case z_range => first | k_is | ks_is | rfl | decide +kernel)
    (case c_MOST_NAME => first | k_is | ks_is | rfl | decide +kernel)
    (case c_LETTERS => first | k_is | ks_is | rfl | decide +kernel)
    (case c_DIGITS => first | k_is | ks_is | rfl | decide +kernel)
    (case c_SIGNS => first | k_is | ks_is | rfl | decide +kernel)
    (case a_char_at => first | k_is | ks_is | rfl | decide +kernel)
    (case l_char_at => first | k_is | ks_is | rfl | decide +kernel)
    (case c_char_at => first | k_is | ks_is | rfl | decide +kernel)
    (case k_char_at => first | k_is | ks_is | rfl | decide +kernel)
    (case a_is_in => first | k_is | ks_is | rfl | decide +kernel)
    (case l_is_in => first | k_is | ks_is | rfl | decide +kernel)
    (case c_is_in => first | k_is | ks_is | rfl | decide +kernel)
    (case k_is_in => first | k_is | ks_is | rfl | decide +kernel)
    (case a_end_of => first | k_is | ks_is | rfl | decide +kernel)
    (case l_end_of => first | k_is | ks_is | rfl | decide +kernel)
    (case c_end_of => first | k_is | ks_is | rfl | decide +kernel)
    (case k_end_of => first | k_is | ks_is | rfl | decide +kernel)
    (case a_is_name => first | k_is | ks_is | rfl | decide +kernel)
    (case l_is_name => first | k_is | ks_is | rfl | decide +kernel)
    (case c_is_name => first | k_is | ks_is | rfl | decide +kernel)
    (case k_is_name => first | k_is | ks_is | rfl | decide +kernel)
    (case a_arity => first | k_is | ks_is | rfl | decide +kernel)
    (case l_arity => first | k_is | ks_is | rfl | decide +kernel)
    (case c_arity => first | k_is | ks_is | rfl | decide +kernel)
    (case k_arity => first | k_is | ks_is | rfl | decide +kernel)
    (case a__law_start => first | k_is | ks_is | rfl | decide +kernel)
    (case l__law_start => first | k_is | ks_is | rfl | decide +kernel)
    (case c__law_start => first | k_is | ks_is | rfl | decide +kernel)
    (case k__law_start => first | k_is | ks_is | rfl | decide +kernel)
    (case a__law_pick => first | k_is | ks_is | rfl | decide +kernel)
    (case l__law_pick => first | k_is | ks_is | rfl | decide +kernel)
    (case c__law_pick => first | k_is | ks_is | rfl | decide +kernel)
    (case k__law_pick => first | k_is | ks_is | rfl | decide +kernel)
    (case a__law_letters => first | k_is | ks_is | rfl | decide +kernel)
    (case l__law_letters => first | k_is | ks_is | rfl | decide +kernel)
    (case c__law_letters => first | k_is | ks_is | rfl | decide +kernel)
    (case k__law_letters => first | k_is | ks_is | rfl | decide +kernel)
    (case a__law_string => first | k_is | ks_is | rfl | decide +kernel)
    (case l__law_string => first | k_is | ks_is | rfl | decide +kernel)
    (case c__law_string => first | k_is | ks_is | rfl | decide +kernel)
    (case k__law_string => first | k_is | ks_is | rfl | decide +kernel)
    (case a__law_is_name => first | k_is | ks_is | rfl | decide +kernel)
    (case l__law_is_name => first | k_is | ks_is | rfl | decide +kernel)
    (case c__law_is_name => first | k_is | ks_is | rfl | decide +kernel)
    (case k__law_is_name => first | k_is | ks_is | rfl | decide +kernel)
    (case a__law_name => first | k_is | ks_is | rfl | decide +kernel)
    (case l__law_name => first | k_is | ks_is | rfl | decide +kernel)
    (case c__law_name => first | k_is | ks_is | rfl | decide +kernel)
    (case k__law_name => first | k_is | ks_is | rfl | decide +kernel)
    (case a__law_selector => first | k_is | ks_is | rfl | decide +kernel)
    (case l__law_selector => first | k_is | ks_is | rfl | decide +kernel)
    (case c__law_selector => first | k_is | ks_is | rfl | decide +kernel)
    (case k__law_selector => first | k_is | ks_is | rfl | decide +kernel)
    (case a_law => first | k_is | ks_is | rfl | decide +kernel)
    (case l_law => first | k_is | ks_is | rfl | decide +kernel)
    (case c_law => first | k_is | ks_is | rfl | decide +kernel)
    (case k_law => first | k_is | ks_is | rfl | decide +kernel)

import PyProof.Rows.All
import Wide.All
import OpenK.AllK
import Wide.FinOn
import KE.KExcSuper
import HandS.ForMost
import HandS.ForExc
import HandS.ExcInit
import HandS.Nested
import HandS.Flow
import HandS.IsInst
import HandS.Wide
import HandS.StrMore
import HandS.RaiseMore
import HandS.TupAny
import HandS.Style
import HandS.NoneIn
import HandS.Conv
import HandS.Deep
import HandS.Small
import HandS.Evl
import HandS.SortInts
import HandS.More
import KE.SortData
import HandS.HotCalls
import HandS.ExcCtx
import HandS.ExcField
import HandS.ExcIs
import KE.KExcIs
import HandS.TryMany
import HandS.HeadWalk
import HandS.Defaults
import HandS.Flt
import PySem.Challenge.RW_saggar_k17_many_locals
set_option Elab.async false
set_option linter.all false
set_option maxRecDepth 100000
set_option maxHeartbeats 4000000
/-! universal rules: by the values' constructors -/
namespace LX
open PySem PySem.Spec PyProof.Rows L2
section
variable {X : Cx}
/-! ### operators -/
def rAddU (K : PySem.W.Frag) : R2 := fun x y H Q => match x, y with
  | .int i, .int j => Q (.int (i + j)) H
  | .str i, .str j => i.length + j.length ≤ sizeLine ∧ Q (.str (i ++ j)) H
  | .ref a, .ref b => rCat (.ref a) (.ref b) H Q ∨ rCatA K (.ref a) (.ref b) H Q
  | _, _ => False
theorem op_addU : OpR X (binaryOp .Add) (rAddU X.K) := by
  intro pins s σ H x y v u Q I rx ry h
  unfold rAddU at h
  split at h
  · exact op_add pins s σ H _ _ v u Q I rx ry ⟨_, _, rfl, rfl, h⟩
  · exact op_add_str pins s σ H _ _ v u Q I rx ry ⟨_, _, rfl, rfl, h.1, h.2⟩
  · rcases h with h | h
    · exact op_cat pins s σ H _ _ v u Q I rx ry h
    · exact op_catA pins s σ H _ _ v u Q I rx ry h
  · exact h.elim
def rMulU : R2 := fun x y H Q => match x, y with
  | .int i, .int j => CMul i j ∧ Q (.int (i * j)) H
  | .ref a, .int j => rRep (.ref a) (.int j) H Q
  | _, _ => False
theorem op_mulU : OpR X (binaryOp .Mult) rMulU := by
  intro pins s σ H x y v u Q I rx ry h
  unfold rMulU at h
  split at h
  · exact op_mul pins s σ H _ _ v u Q I rx ry ⟨_, _, rfl, rfl, h.1, h.2⟩
  · exact op_rep pins s σ H _ _ v u Q I rx ry h
  · exact h.elim
/-- an order by ints, by texts -/
def rOrd (f : Int → Int → Bool) (g : List Nat → List Nat → Bool) : R2 := fun x y H Q => match x, y with
  | .int i, .int j => Q (.bl (f i j)) H
  | .str i, .str j => Q (.bl (g i.cps.toList j.cps.toList)) H
  | _, _ => False
abbrev rLtU : R2 := rOrd (fun i j => decide (i < j)) (fun i j => decide (i < j))
abbrev rLeU : R2 := rOrd (fun i j => decide (i ≤ j)) (fun i j => !decide (j < i))
abbrev rGtU : R2 := rOrd (fun i j => decide (j < i)) (fun i j => decide (j < i))
abbrev rGeU : R2 := rOrd (fun i j => decide (j ≤ i)) (fun i j => !decide (i < j))
theorem op_ltU : OpR X (compareOp .Lt) rLtU := by
  intro pins s σ H x y v u Q I rx ry h
  unfold rLtU rOrd at h
  split at h
  · exact op_lt pins s σ H _ _ v u Q I rx ry ⟨_, _, rfl, rfl, h⟩
  · exact op_lt_str pins s σ H _ _ v u Q I rx ry ⟨_, _, rfl, rfl, h⟩
  · exact h.elim
theorem op_leU : OpR X (compareOp .LtE) rLeU := by
  intro pins s σ H x y v u Q I rx ry h
  unfold rLeU rOrd at h
  split at h
  · exact op_le pins s σ H _ _ v u Q I rx ry ⟨_, _, rfl, rfl, h⟩
  · exact op_le_str pins s σ H _ _ v u Q I rx ry ⟨_, _, rfl, rfl, h⟩
  · exact h.elim
theorem op_gtU : OpR X (compareOp .Gt) rGtU := by
  intro pins s σ H x y v u Q I rx ry h
  unfold rGtU rOrd at h
  split at h
  · exact op_gt pins s σ H _ _ v u Q I rx ry ⟨_, _, rfl, rfl, h⟩
  · exact op_gt_str pins s σ H _ _ v u Q I rx ry ⟨_, _, rfl, rfl, h⟩
  · exact h.elim
theorem op_geU : OpR X (compareOp .GtE) rGeU := by
  intro pins s σ H x y v u Q I rx ry h
  unfold rGeU rOrd at h
  split at h
  · exact op_ge pins s σ H _ _ v u Q I rx ry ⟨_, _, rfl, rfl, h⟩
  · exact op_ge_str pins s σ H _ _ v u Q I rx ry ⟨_, _, rfl, rfl, h⟩
  · exact h.elim
/-- ==, != : two objects (deep), else by value -/
def rEqU (K : PySem.W.Frag) (g : Bool → Bool) : R2 := fun x y H Q => match x, y with
  | .ref a, .ref b => ∃ d e, Dp K H (.ref a) d ∧ Dp K H (.ref b) e ∧ SeqAt.shaped d = true ∧ SeqAt.shaped e = true ∧ Q (.bl (g (PyData.eqv d e))) H
  | x, y => scal x y = true ∧ Q (.bl (g (decide (x = y)))) H
theorem op_eqU (hu : X.A.units + 64 < cLine) : OpR X (compareOp .Eq) (rEqU X.K id) := by
  intro pins s σ H x y v u Q I rx ry h
  unfold rEqU at h
  split at h
  · exact op_eqD hu pins s σ H _ _ v u Q I rx ry h
  · exact op_eq pins s σ H _ _ v u Q I rx ry h
theorem op_neU (hu : X.A.units + 64 < cLine) : OpR X (compareOp .NotEq) (rEqU X.K (!·)) := by
  intro pins s σ H x y v u Q I rx ry h
  unfold rEqU at h
  split at h
  · exact op_neD hu pins s σ H _ _ v u Q I rx ry h
  · exact op_ne pins s σ H _ _ v u Q I rx ry h
/-- x is None, True, False -/
def rIsU (g : Bool → Bool) : R2 := fun x y H Q => match y with
  | .non => Q (.bl (g (decide (x = .non)))) H
  | .bl b => Q (.bl (g (decide (x = .bl b)))) H
  | _ => False
theorem op_isU : OpR X (compareOp .Is) (rIsU id) := by
  intro pins s σ H x y v u Q I rx ry h
  unfold rIsU at h
  split at h
  · exact op_isN pins s σ H _ _ v u Q I rx ry ⟨rfl, h⟩
  · rename_i b
    cases (show u = Value.bool b from ry)
    by_cases e : x = .bl b
    · subst e
      cases (show v = Value.bool b from rx)
      exact wpAny_is_self rfl ⟨.bl true, H, I, rfl, by simpa using h⟩
    · refine wpAny_is_other ?_ ?_ ⟨.bl false, H, I, rfl, by simpa [e] using h⟩
      · first | rfl | (cases x <;> first | rfl | (cases rx; rfl) | (obtain ⟨t, rfl⟩ := rx; rfl))
      · intro z
        subst z
        exact e (RelV.inj rx rfl)
  · exact h.elim
theorem op_isnotU : OpR X (compareOp .IsNot) (rIsU (!·)) := by
  intro pins s σ H x y v u Q I rx ry h
  unfold rIsU at h
  split at h
  · exact op_notN pins s σ H _ _ v u Q I rx ry ⟨rfl, h⟩
  · rename_i b
    cases (show u = Value.bool b from ry)
    by_cases e : x = .bl b
    · subst e
      cases (show v = Value.bool b from rx)
      exact wpAny_isNot_self rfl ⟨.bl false, H, I, rfl, by simpa using h⟩
    · refine wpAny_isNot_other ?_ ?_ ⟨.bl true, H, I, rfl, by simpa [e] using h⟩
      · first | rfl | (cases x <;> first | rfl | (cases rx; rfl) | (obtain ⟨t, rfl⟩ := rx; rfl))
      · intro z
        subst z
        exact e (RelV.inj rx rfl)
  · exact h.elim
/-! ### subscripts, slices, in -/
def rIxU (K : PySem.W.Frag) : R2 := fun x y H Q => match x with
  | .str z => ∃ i c, y = .int i ∧ z.length ≤ sizeLine ∧ atI z.cps.toList i = some c ∧ Q (.str ⟨#[c]⟩) H
  | .ref p => (∃ xs i v, y = .int i ∧ (SqL K H p xs ∨ SqT K H p xs) ∧ atI xs i = some v ∧ Q v H) ∨ (∃ v, DGet H p y (some v) ∧ Q v H)
  | _ => False
theorem ix_U (hu : X.A.units + 1 < cLine) : IxR X (rIxU X.K) := by
  intro value slice pins s σ H x y v u Q I rx ry h hs
  unfold rIxU at h
  split at h
  · obtain ⟨i, c, rfl, h1, h2, q⟩ := h
    exact ix_str value slice pins s σ H _ _ v u Q I rx ry ⟨_, _, _, rfl, rfl, h1, h2, q⟩ hs
  · rcases h with ⟨xs, i, w', rfl, h1 | h1, h2, q⟩ | ⟨w', g, q⟩
    · exact ix_list value slice pins s σ H _ _ v u Q I rx ry ⟨_, _, _, _, rfl, rfl, h1, h2, q⟩ hs
    · exact ix_tup value slice pins s σ H _ _ v u Q I rx ry ⟨_, _, _, _, rfl, rfl, h1, h2, q⟩ hs
    · rename_i p
      obtain rfl : v = Value.ref p := rx
      exact tail_any (dict_typeIs I g) PySem.F.slot_dict_getitem.lookup (d_getItem hu I g ry fun w2 s2 I2 rw2 => ⟨w', H, I2, rw2, q⟩) hs
  · exact h.elim
def rSlU (K : PySem.W.Frag) : V → Option Int → Option Int → Hp → VK → Prop := fun x lo hi H Q => match x with
  | .str z => z.length ≤ sizeLine ∧ Q (.str (cutS z lo hi)) H
  | .ref a => rSlL K (.ref a) lo hi H Q ∨ rSlA K (.ref a) lo hi H Q
  | _ => False
theorem sl_U : SlR X (rSlU X.K) := by
  intro pins s σ H x v vl vu lo hi sl Q I rx hs pl pu h
  unfold rSlU at h
  split at h
  · exact sl_str pins s σ H _ v vl vu lo hi sl Q I rx hs pl pu ⟨_, rfl, h.1, h.2⟩
  · rcases h with h | h
    · exact sl_list pins s σ H _ v vl vu lo hi sl Q I rx hs pl pu h
    · exact sl_tupA pins s σ H _ v vl vu lo hi sl Q I rx hs pl pu h
  · exact h.elim
/-- in, not in -/
def rInU (K : PySem.W.Frag) (g : Bool → Bool) : R2 := fun x y H Q => match y with
  | .str z => (∃ c : Nat, x = .str ⟨#[c]⟩ ∧ Q (.bl (g (decide (c ∈ z.cps.toList)))) H) ∨ ∃ i, x = .str i ∧ Q (.bl (g (!(Builtin.Str.occurrences z i 0 z.length 1).isEmpty))) H
  | .ref p => (∃ xs, (SqL K H p xs ∨ SqT K H p xs) ∧ flatV x = true ∧ xs.all flatV = true ∧ Q (.bl (g (inV x xs))) H) ∨ (∃ o, DGet H p x o ∧ Q (.bl (g o.isSome)) H)
  | _ => False
theorem op_inU (hu : X.A.units + 1 < cLine) : OpR X (compareOp .In) (rInU X.K id) := by
  intro pins s σ H x y v u Q I rx ry h
  unfold rInU at h
  split at h
  · rcases h with ⟨c, rfl, q⟩ | ⟨i, rfl, q⟩
    · exact op_in_sign pins s σ H _ _ v u Q I rx ry ⟨_, _, rfl, rfl, q⟩
    · exact op_in_str pins s σ H _ _ v u Q I rx ry ⟨_, _, rfl, rfl, q⟩
  · rcases h with ⟨xs, h1, h2, h3, q⟩ | ⟨o, g, q⟩
    · exact op_in_seq pins s σ H _ _ v u Q I rx ry ⟨_, xs, rfl, h1, h2, h3, q⟩
    · rename_i p
      obtain rfl : u = Value.ref p := ry
      exact d_in hu I g rx fun s3 I3 => ⟨.bl o.isSome, H, I3, rfl, q⟩
  · exact h.elim
theorem op_ninU (hu : X.A.units + 1 < cLine) : OpR X (compareOp .NotIn) (rInU X.K (!·)) := by
  intro pins s σ H x y v u Q I rx ry h
  unfold rInU at h
  split at h
  · rcases h with ⟨c, rfl, q⟩ | ⟨i, rfl, q⟩
    · exact op_notIn_sign pins s σ H _ _ v u Q I rx ry ⟨_, _, rfl, rfl, q⟩
    · exact op_notin_str pins s σ H _ _ v u Q I rx ry ⟨_, _, rfl, rfl, q⟩
  · rcases h with ⟨xs, h1, h2, h3, q⟩ | ⟨o, g, q⟩
    · exact op_notIn_seq pins s σ H _ _ v u Q I rx ry ⟨_, xs, rfl, h1, h2, h3, q⟩
    · rename_i p
      obtain rfl : u = Value.ref p := ry
      exact d_notIn hu I g rx fun s3 I3 => ⟨.bl (!o.isSome), H, I3, rfl, q⟩
  · exact h.elim
/-! ### calls -/
def rLenU (K : PySem.W.Frag) : List V → Hp → VK → Prop := fun xs H Q => match xs with
  | [.str z] => z.length ≤ sizeLine ∧ Q (.int z.length) H
  | [.ref p] => (∃ ys, (SqL K H p ys ∨ SqT K H p ys) ∧ Q (.int ys.length) H) ∨ ∃ kvs, H p = some (.dK kvs) ∧ Q (.int kvs.length) H
  | _ => False
theorem call_lenU : CallR X (.builtin "len") (rLenU X.K) := by
  intro pins s σ H xs us Q I r h
  unfold rLenU at h
  split at h
  · exact call_len_str pins s σ H _ us Q I r ⟨_, rfl, h.1, h.2⟩
  · rcases h with ⟨ys, h1, q⟩ | ⟨kvs, h1, q⟩
    · exact call_len_seq pins s σ H _ us Q I r ⟨_, ys, rfl, h1, q⟩
    · exact call_lenD pins s σ H _ us Q I r ⟨_, kvs, rfl, h1, q⟩
  · exact h.elim
def rIntU : List V → Hp → VK → Prop := fun xs H Q => match xs with
  | [.int i] => Q (.int i) H
  | [.bl k] => Q (.int (if k then 1 else 0)) H
  | [.str a] => ∃ n, PySem.intText? a = some n ∧ a.length ≤ 640 ∧ Q (.int n) H
  | _ => False
theorem call_intU : CallR X (.type "int") rIntU := by
  intro pins s σ H xs us Q I r h
  unfold rIntU at h
  split at h
  · exact call_int1 pins s σ H _ us Q I r (.inl ⟨_, rfl, h⟩)
  · exact call_int1 pins s σ H _ us Q I r (.inr ⟨_, rfl, h⟩)
  · obtain ⟨n, h1, h2, q⟩ := h
    exact call_int_str pins s σ H _ us Q I r ⟨_, n, rfl, h1, h2, q⟩
  · exact h.elim
def rStrU : List V → Hp → VK → Prop := fun xs H Q => match xs with
  | [.int i] => i.natAbs.log2 < 1920 ∧ Q (.str (toString i)) H
  | [.str a] => Q (.str a) H
  | _ => False
theorem call_strU : CallR X (.type "str") rStrU := by
  intro pins s σ H xs us Q I r h
  unfold rStrU at h
  split at h
  · exact call_str_int pins s σ H _ us Q I r ⟨_, rfl, h.1, h.2⟩
  · exact SkE.call_str_str pins s σ H _ us Q I r ⟨_, rfl, h⟩
  · exact h.elim
/-- isinstance: a built-in type or an own class -/
def rIsU2 (K : PySem.W.Frag) : List V → Hp → VK → Prop := fun xs H Q => ∃ (x c : V) (t u : Value) (b : Bool), xs = [x, c] ∧ ClsV c u ∧ TyX K H x t ∧ PySem.W.kitOne K t u = some b ∧ Q (.bl b) H
end
theorem hu64_of {A : Around} {k : Nat} (hr : Room k A) : A.units + 64 < cLine := by have := hr.un; omega
theorem ite_eq {c d : Bool} {A B : Prop} (e : c = d) (h : if d = true then A else B) : if c = true then A else B := by rw [e]; exact h
theorem iteD {c : Prop} [Decidable c] {A B : Prop} (h1 : c → A) (h2 : ¬ c → B) : if decide c = true then A else B := by
  by_cases h : c
  · rw [decide_eq_true h]; exact iteT (h1 h)
  · rw [decide_eq_false h]; exact iteF (h2 h)
theorem iteND {c : Prop} [Decidable c] {A B : Prop} (h1 : ¬ c → A) (h2 : c → B) : if (!decide c) = true then A else B := by
  by_cases h : c
  · rw [decide_eq_true h]; exact iteF (h2 h)
  · rw [decide_eq_false h]; exact iteT (h1 h)
/-- a text by its signs -/
abbrev T (l : List Nat) : Str := ⟨l.toArray⟩
theorem T_of (z : Str) : z = T z.cps.toList := rfl
theorem T_inj {a b : List Nat} (h : T a = T b) : a = b := congrArg (fun x : Str => x.cps.toList) h
theorem T_app (a b : List Nat) : T a ++ T b = T (a ++ b) := by
  show (⟨a.toArray ++ b.toArray⟩ : Str) = ⟨(a ++ b).toArray⟩
  simp
theorem T_dec (a b : List Nat) : decide (V.str (T a) = V.str (T b)) = decide (a = b) := by
  by_cases h : a = b
  · subst h; simp
  · have : ¬ V.str (T a) = V.str (T b) := fun z => h (T_inj (V.str.inj z))
    rw [decide_eq_false this, decide_eq_false h]
theorem I_dec (a b : Int) : decide (V.int a = V.int b) = decide (a = b) := by
  by_cases h : a = b
  · subst h; simp
  · have : ¬ V.int a = V.int b := fun z => h (V.int.inj z)
    rw [decide_eq_false this, decide_eq_false h]
theorem B_dec (a b : Bool) : decide (V.bl a = V.bl b) = (a == b) := by cases a <;> cases b <;> rfl
theorem pe_strT {X : Cx} {x : Str} {l : List Nat} {j : Nat} {pos : Pos} (e : x = T l) : PE X (.Constant (.str x) j pos) (tC (.str (T l))) := by subst e; exact pe_str
theorem pv_some {X : Cx} : True := True.intro
theorem bb_len : bootBuiltins "len" = some (.builtin "len") := by first | rfl | decide +kernel
theorem bb_isinstance : bootBuiltins "isinstance" = some (.builtin "isinstance") := by first | rfl | decide +kernel
theorem bb_abs : bootBuiltins "abs" = some (.builtin "abs") := by first | rfl | decide +kernel
theorem bb_sorted : bootBuiltins "sorted" = some (.builtin "sorted") := by first | rfl | decide +kernel
theorem bb_min : bootBuiltins "min" = some (.builtin "min") := by first | rfl | decide +kernel
theorem bb_max : bootBuiltins "max" = some (.builtin "max") := by first | rfl | decide +kernel
theorem bb_sum : bootBuiltins "sum" = some (.builtin "sum") := by first | rfl | decide +kernel
theorem bb_all : bootBuiltins "all" = some (.builtin "all") := by first | rfl | decide +kernel
theorem bb_any : bootBuiltins "any" = some (.builtin "any") := by first | rfl | decide +kernel
theorem bb_repr : bootBuiltins "repr" = some (.builtin "repr") := by first | rfl | decide +kernel
theorem bb_int : bootBuiltins "int" = some (.type "int") := by first | rfl | decide +kernel
theorem bb_str : bootBuiltins "str" = some (.type "str") := by first | rfl | decide +kernel
theorem bb_bool : bootBuiltins "bool" = some (.type "bool") := by first | rfl | decide +kernel
theorem bb_list : bootBuiltins "list" = some (.type "list") := by first | rfl | decide +kernel
theorem bb_dict : bootBuiltins "dict" = some (.type "dict") := by first | rfl | decide +kernel
theorem bb_tuple : bootBuiltins "tuple" = some (.type "tuple") := by first | rfl | decide +kernel
theorem bb_set : bootBuiltins "set" = some (.type "set") := by first | rfl | decide +kernel
theorem bb_ValueError : bootBuiltins "ValueError" = some (.type "ValueError") := by first | rfl | decide +kernel
theorem pe_gi {X : Cx} {x : Str} {z : Int} {t : Tok} {pos : Pos} (hg : Gl X x) (hm : X.mg x = some (.int z t)) (hd : (x == ("__debug__" : Str)) = false := by decide) : PE X (.Name x pos) (tC (.int z)) := pe_glob hg hm ⟨_, rfl⟩ hd
theorem pe_gs {X : Cx} {x : Str} {z : Str} {t : Tok} {pos : Pos} (hg : Gl X x) (hm : X.mg x = some (.str z t)) (hd : (x == ("__debug__" : Str)) = false := by decide) : PE X (.Name x pos) (tC (.str z)) := pe_glob hg hm ⟨_, rfl⟩ hd
theorem pe_gr {X : Cx} {x : Str} {a : Addr} {pos : Pos} (hg : Gl X x) (hm : X.mg x = some (.ref a)) (hd : (x == ("__debug__" : Str)) = false := by decide) : PE X (.Name x pos) (tC (.ref a)) := pe_glob hg hm rfl hd
theorem pe_bt {X : Cx} {x : Str} {n : String} {pos : Pos} (hg : Gl X x) (hm : X.mg x = none) (hv : bootBuiltins x = some (.type n)) (hn : x ≠ "__name__" := by decide) (hd : (x == ("__debug__" : Str)) = false := by decide) : PE X (.Name x pos) (tC (.ty n)) := pe_bltn hg hm hv rfl hn hd
/-! isinstance against built-in types -/
theorem kt_int_int {K : PySem.W.Frag} : PySem.W.kitOne K (.type "int") (.type "int") = some true := kit_ty (by decide +kernel)
theorem kt_int_bool {K : PySem.W.Frag} : PySem.W.kitOne K (.type "int") (.type "bool") = some false := kit_ty (by decide +kernel)
theorem kt_int_str {K : PySem.W.Frag} : PySem.W.kitOne K (.type "int") (.type "str") = some false := kit_ty (by decide +kernel)
theorem kt_int_list {K : PySem.W.Frag} : PySem.W.kitOne K (.type "int") (.type "list") = some false := kit_ty (by decide +kernel)
theorem kt_int_tuple {K : PySem.W.Frag} : PySem.W.kitOne K (.type "int") (.type "tuple") = some false := kit_ty (by decide +kernel)
theorem kt_int_dict {K : PySem.W.Frag} : PySem.W.kitOne K (.type "int") (.type "dict") = some false := kit_ty (by decide +kernel)
theorem kt_bool_int {K : PySem.W.Frag} : PySem.W.kitOne K (.type "bool") (.type "int") = some true := kit_ty (by decide +kernel)
theorem kt_bool_bool {K : PySem.W.Frag} : PySem.W.kitOne K (.type "bool") (.type "bool") = some true := kit_ty (by decide +kernel)
theorem kt_bool_str {K : PySem.W.Frag} : PySem.W.kitOne K (.type "bool") (.type "str") = some false := kit_ty (by decide +kernel)
theorem kt_bool_list {K : PySem.W.Frag} : PySem.W.kitOne K (.type "bool") (.type "list") = some false := kit_ty (by decide +kernel)
theorem kt_bool_tuple {K : PySem.W.Frag} : PySem.W.kitOne K (.type "bool") (.type "tuple") = some false := kit_ty (by decide +kernel)
theorem kt_bool_dict {K : PySem.W.Frag} : PySem.W.kitOne K (.type "bool") (.type "dict") = some false := kit_ty (by decide +kernel)
theorem kt_str_int {K : PySem.W.Frag} : PySem.W.kitOne K (.type "str") (.type "int") = some false := kit_ty (by decide +kernel)
theorem kt_str_bool {K : PySem.W.Frag} : PySem.W.kitOne K (.type "str") (.type "bool") = some false := kit_ty (by decide +kernel)
theorem kt_str_str {K : PySem.W.Frag} : PySem.W.kitOne K (.type "str") (.type "str") = some true := kit_ty (by decide +kernel)
theorem kt_str_list {K : PySem.W.Frag} : PySem.W.kitOne K (.type "str") (.type "list") = some false := kit_ty (by decide +kernel)
theorem kt_str_tuple {K : PySem.W.Frag} : PySem.W.kitOne K (.type "str") (.type "tuple") = some false := kit_ty (by decide +kernel)
theorem kt_str_dict {K : PySem.W.Frag} : PySem.W.kitOne K (.type "str") (.type "dict") = some false := kit_ty (by decide +kernel)
theorem kt_list_int {K : PySem.W.Frag} : PySem.W.kitOne K (.type "list") (.type "int") = some false := kit_ty (by decide +kernel)
theorem kt_list_bool {K : PySem.W.Frag} : PySem.W.kitOne K (.type "list") (.type "bool") = some false := kit_ty (by decide +kernel)
theorem kt_list_str {K : PySem.W.Frag} : PySem.W.kitOne K (.type "list") (.type "str") = some false := kit_ty (by decide +kernel)
theorem kt_list_list {K : PySem.W.Frag} : PySem.W.kitOne K (.type "list") (.type "list") = some true := kit_ty (by decide +kernel)
theorem kt_list_tuple {K : PySem.W.Frag} : PySem.W.kitOne K (.type "list") (.type "tuple") = some false := kit_ty (by decide +kernel)
theorem kt_list_dict {K : PySem.W.Frag} : PySem.W.kitOne K (.type "list") (.type "dict") = some false := kit_ty (by decide +kernel)
theorem kt_tuple_int {K : PySem.W.Frag} : PySem.W.kitOne K (.type "tuple") (.type "int") = some false := kit_ty (by decide +kernel)
theorem kt_tuple_bool {K : PySem.W.Frag} : PySem.W.kitOne K (.type "tuple") (.type "bool") = some false := kit_ty (by decide +kernel)
theorem kt_tuple_str {K : PySem.W.Frag} : PySem.W.kitOne K (.type "tuple") (.type "str") = some false := kit_ty (by decide +kernel)
theorem kt_tuple_list {K : PySem.W.Frag} : PySem.W.kitOne K (.type "tuple") (.type "list") = some false := kit_ty (by decide +kernel)
theorem kt_tuple_tuple {K : PySem.W.Frag} : PySem.W.kitOne K (.type "tuple") (.type "tuple") = some true := kit_ty (by decide +kernel)
theorem kt_tuple_dict {K : PySem.W.Frag} : PySem.W.kitOne K (.type "tuple") (.type "dict") = some false := kit_ty (by decide +kernel)
theorem kt_dict_int {K : PySem.W.Frag} : PySem.W.kitOne K (.type "dict") (.type "int") = some false := kit_ty (by decide +kernel)
theorem kt_dict_bool {K : PySem.W.Frag} : PySem.W.kitOne K (.type "dict") (.type "bool") = some false := kit_ty (by decide +kernel)
theorem kt_dict_str {K : PySem.W.Frag} : PySem.W.kitOne K (.type "dict") (.type "str") = some false := kit_ty (by decide +kernel)
theorem kt_dict_list {K : PySem.W.Frag} : PySem.W.kitOne K (.type "dict") (.type "list") = some false := kit_ty (by decide +kernel)
theorem kt_dict_tuple {K : PySem.W.Frag} : PySem.W.kitOne K (.type "dict") (.type "tuple") = some false := kit_ty (by decide +kernel)
theorem kt_dict_dict {K : PySem.W.Frag} : PySem.W.kitOne K (.type "dict") (.type "dict") = some true := kit_ty (by decide +kernel)
theorem kt_NoneType_int {K : PySem.W.Frag} : PySem.W.kitOne K (.type "NoneType") (.type "int") = some false := kit_ty (by decide +kernel)
theorem kt_NoneType_bool {K : PySem.W.Frag} : PySem.W.kitOne K (.type "NoneType") (.type "bool") = some false := kit_ty (by decide +kernel)
theorem kt_NoneType_str {K : PySem.W.Frag} : PySem.W.kitOne K (.type "NoneType") (.type "str") = some false := kit_ty (by decide +kernel)
theorem kt_NoneType_list {K : PySem.W.Frag} : PySem.W.kitOne K (.type "NoneType") (.type "list") = some false := kit_ty (by decide +kernel)
theorem kt_NoneType_tuple {K : PySem.W.Frag} : PySem.W.kitOne K (.type "NoneType") (.type "tuple") = some false := kit_ty (by decide +kernel)
theorem kt_NoneType_dict {K : PySem.W.Frag} : PySem.W.kitOne K (.type "NoneType") (.type "dict") = some false := kit_ty (by decide +kernel)
end LX
/-! sorted(x) of a list of whole numbers or of a dict with such keys, any number of them -/
namespace LX
open PySem PySem.Spec PyProof.Rows L2
section
variable {X : Cx}
theorem call_sortedDA (hcalm : X.calm = true) : CallR X (.builtin "sorted") (fun xs H Q => ∃ (a : Addr) (kvs : List (Key × V)) (ks : List Int), xs = [.ref a] ∧ Rd H a (.dK kvs) ∧ kvs.map (·.1) = ks.map Sum.inl ∧
    ∀ (ys : List Int) (p : Addr), ys.Perm ks → ys.Pairwise (· ≤ ·) → H p = none → Q (.ref p) (upd H p (.lst (ys.map V.int)))) := by
  intro pins s σ H xs us Q I r q
  obtain ⟨a, kvs, ks, ex, hd, hks, q⟩ := q
  subst ex
  obtain ⟨u, eu, rx⟩ := vals1 r
  subst eu
  cases rx
  obtain ⟨z, lo, vs, rel, dd⟩ := dk_rd I.hok hd
  obtain ⟨ep, hat⟩ := dd.dictAt
  have hkeys : vs.map (·.1) = ks.map Sum.inl := rel.keys.symm.trans hks
  have hl : vs.length = ks.length := by
    have e := congrArg List.length hkeys
    rw [List.length_map, List.length_map] at e
    exact e
  have hkl : ks.length ≤ sizeLine := by
    have e := congrArg List.length hks
    rw [List.length_map, List.length_map] at e
    omega
  have h16 : vs.length ≤ sizeLine := by rw [hl]; exact hkl
  refine Calls.call_function_entry PyProof.Rows.kind_sorted PyProof.Rows.plain_sorted PyProof.Rows.entry_sorted (PyProof.Rows.args_sorted1 _) ?_
  unfold Builtin.«sorted»
  refine wpAny_bind (m := checkCount "sorted" 1 1 _) (wpAny_pure ?_)
  refine wpAny_bind (PySem.W.kdu_collect (A := X.A.in1) (PySem.W.kdl_dict (knd := mixKind X.prog X.w) (kvs := vs) (ep := ep) lo) (I.ok.hd hcalm) hat h16 fun h' tk acc hk hacc => ?_)
  have hal : acc.toList.length = ks.length := by rw [Array.length_toList, hacc.1, hl]
  have hS : IntsAre acc.toList ks := ints_each hal fun j v e => by
    obtain ⟨k, x, e1, e2⟩ := hacc.2 j v (by rw [← Array.getElem?_toList]; exact e)
    have e3 : (vs.map (·.1))[j]? = some k := by rw [List.getElem?_map, e1]; rfl
    rw [hkeys, List.getElem?_map] at e3
    cases e4 : ks[j]? with
    | none => rw [e4] at e3; cases e3
    | some y =>
      rw [e4] at e3
      have e5 : Sum.inl y = k := Option.some.inj e3
      subst e5
      rcases keyIs_shape (show keyIs (Sum.inl y) v = true from e2) with ⟨i, t, ek, ev⟩ | ⟨z, t, ek, ev⟩
      · cases ek
        exact ⟨y, t, rfl, ev⟩
      · cases ek
  have I1 : Inv X pins σ H { s with heap := h', toks := tk } := I.kept hk
  refine wpAny_bind (wpAny_newList ?_ (by rw [hal]; exact hkl))
  have hoL : (h'.push (seqObj "list" acc.toList.toArray 0)).get? h'.objs.size = some (seqObj "list" acc.toList.toArray 0) := Heap.get?_push_size _ rfl
  show wpAny _ _ _ _ _ { s with heap := h'.push (seqObj "list" acc.toList.toArray 0), toks := tk }
  refine wpAny_bind (wpAny_holding (wpAny_call_entry PyProof.Rows.slot_list_sort ⟨_, hoL, rfl⟩ PyProof.Rows.entry_list_sort
    (SrtO.list_sort_ord (s := { s with heap := h'.push (seqObj "list" acc.toList.toArray 0), toks := tk }) SrtO.swo_int hoL (by rw [hal]; exact hkl) (fun h2 => SrtO.ints_sortable hS h2) fun out h1 h2 => ⟨.none, rfl, ?_⟩) (PyProof.Rows.args_list_sort _)))
  obtain ⟨k1, k2, k3⟩ := SrtO.ints_out hS h1 h2
  obtain ⟨e', he'⟩ := PyProof.Rows.sortedHeap_at (vs := acc.toList) (out := out.toArray) hoL
  have hlen : ((out.map SrtO.iv).map V.int).length ≤ sizeLine := by
    rw [List.length_map, k2.length_eq]
    exact hkl
  refine wpAny_pure ⟨_, rfl, .ref h'.objs.size, upd H h'.objs.size (.lst ((out.map SrtO.iv).map V.int)), I1.laid (t' := tk) (fun b u e => ?_) (Nat.le_refl _)
    (show ObjOk X.prog X.w _ _ _ (.lst ((out.map SrtO.iv).map V.int)) from ⟨hlen, out, e', vals_of_ints k1, he'⟩), rfl, q _ _ k2 k3 (I1.hok.fresh (Nat.le_refl _))⟩
  have hb : b < h'.objs.size := Heap.lt_size e
  rw [PyProof.Rows.sortedHeap_old (Nat.ne_of_lt hb) (by rw [size_push']; exact Nat.lt_succ_of_lt hb)]
  exact Heap.get?_push_of_some _ e
def rSortedU (K : PySem.W.Frag) : List V → Hp → VK → Prop := fun vs H Q => ∃ (a : Addr) (ns : List Int), vs = [V.ref a] ∧ (SqL K H a (ns.map V.int) ∨ ∃ kvs : List (Key × V), Rd H a (.dK kvs) ∧ kvs.map (·.1) = ns.map Sum.inl) ∧
  ∀ (ns' : List Int) (p : Addr), ns'.Perm ns → ns'.Pairwise (· ≤ ·) → H p = none → Q (.ref p) (upd H p (.lst (ns'.map V.int)))
theorem call_sortedU (hcalm : X.calm = true) : CallR X (.builtin "sorted") (rSortedU X.K) := by
  intro pins s σ H xs us Q I r h
  obtain ⟨a, ns, rfl, h1 | ⟨kvs, h1, h2⟩, q⟩ := h
  · exact cr_sortedI pins s σ H _ us Q I r ⟨a, ns, rfl, h1, q⟩
  · exact call_sortedDA hcalm pins s σ H _ us Q I r ⟨a, kvs, ns, rfl, h1, h2, q⟩
end
end LX
/-! the rules of LBase with the law's own K, for the parts of a comprehension -/
namespace LX
open PySem PySem.Spec PyProof.Rows L2
section
variable {X : Cx} {K : PySem.W.Frag}
theorem ix_UK (e : X.K = K) (hu : X.A.units + 1 < cLine) : IxR X (rIxU K) := by subst e; exact ix_U hu
theorem op_addUK (e : X.K = K) : OpR X (binaryOp .Add) (rAddU K) := by subst e; exact op_addU
theorem op_eqUK (e : X.K = K) (hu : X.A.units + 64 < cLine) : OpR X (compareOp .Eq) (rEqU K id) := by subst e; exact op_eqU hu
theorem op_neUK (e : X.K = K) (hu : X.A.units + 64 < cLine) : OpR X (compareOp .NotEq) (rEqU K (!·)) := by subst e; exact op_neU hu
theorem op_inUK (e : X.K = K) (hu : X.A.units + 1 < cLine) : OpR X (compareOp .In) (rInU K id) := by subst e; exact op_inU hu
theorem op_ninUK (e : X.K = K) (hu : X.A.units + 1 < cLine) : OpR X (compareOp .NotIn) (rInU K (!·)) := by subst e; exact op_ninU hu
theorem sl_UK (e : X.K = K) : SlR X (rSlU K) := by subst e; exact sl_U
theorem call_lenUK (e : X.K = K) : CallR X (.builtin "len") (rLenU K) := by subst e; exact call_lenU
theorem pe_fldK {o : Expr} {f : Str} {pos : Pos} {ta : TE} (e : X.K = K) (he : PE X o ta) (hb : attributeBase o f X.env (eval o X.env) = eval o X.env) : PE X (.Attribute o f pos) (tFld K ta f) := by subst e; exact pe_fld he hb
def tTruK (K : PySem.W.Frag) (ta : TE) : TT := fun σ H Q => ta σ H fun x H' => ∃ k, TruV K x H' k ∧ Q k H'
theorem pt_truthK {a : Expr} {ta : TE} (e : X.K = K) (ha : PE X a ta) (he : ∀ whole, isTrue a X.env whole = (do let v ← whole; standAt a.pos; holding [v] (truthy v))) :
    PT X a (tTruK K ta) := by subst e; exact pt_truth ha he
end
end LX
/-! the reading, step by step: one rule a head; the step tactic is printed from mkauto.py -/
namespace LX
open PySem PySem.Spec PyProof.Rows L2
/-- every old thing outside of F is kept -/
def Fr (F : List Addr) (H H' : Hp) : Prop := ∀ b o, H b = some o → b ∉ F → H' b = some o
theorem Fr.rfl' {F : List Addr} {H : Hp} : Fr F H H := fun _ _ e _ => e
theorem Fr.trans {F : List Addr} {H H1 H2 : Hp} (a : Fr F H H1) (b : Fr F H1 H2) : Fr F H H2 := fun c o e n => b c o (a c o e n) n
theorem Fr.new {F : List Addr} {H : Hp} {q : Addr} {o : HO} (hq : H q = none) : Fr F H (upd H q o) := fun c u e _ => by rw [upd_ne (ne_of_none e hq)]; exact e
theorem Fr.at {F : List Addr} {H : Hp} {q : Addr} {o : HO} (hq : q ∈ F) : Fr F H (upd H q o) := fun c u e n => by rw [upd_ne (fun z => n (by rw [z]; exact hq))]; exact e
theorem Fr.mono {F G : List Addr} {H H' : Hp} (a : Fr F H H') (h : ∀ b, b ∈ F → b ∈ G) : Fr G H H' := fun c o e n => a c o e fun m => n (h c m)
theorem Fr.skip {F : List Addr} {H H' : Hp} {q : Addr} {o : HO} (f : Fr F H H') (hq : H q = none) : Fr F H (upd H' q o) := fun b u e n => by rw [upd_ne (ne_of_none e hq)]; exact f b u e n
theorem Fr.g {F : List Addr} {H H' : Hp} (f : Fr F H H') {a : Addr} {o : HO} (h : H a = some o) (n : a ∉ F) : H' a = some o := f a o h n
theorem Fr.g0 {H H' : Hp} (f : Fr [] H H') {a : Addr} {o : HO} (h : H a = some o) : H' a = some o := f a o h (by simp)
/-- what is free later was free before -/
theorem Fr.none {H H' : Hp} (f : Fr [] H H') {q : Addr} (h : H' q = Option.none) : H q = Option.none := by
  cases e : H q with
  | none => rfl
  | some o => rw [f.g0 e] at h; cases h
theorem Fr.noneF {F : List Addr} {H H' : Hp} (f : Fr F H H') {q : Addr} (h : H' q = Option.none) (n : q ∉ F) : H q = Option.none := by
  cases e : H q with
  | none => rfl
  | some o => rw [f q o e n] at h; cases h
section
variable {K : PySem.W.Frag} {σ : L2.St} {H : Hp} {D : Ends}
/-! ### statements -/
theorem z_seq {t u : TS} (h : t { D with nx := u D } σ H) : tSeq t u D σ H := h
theorem z_next (h : D.nx σ H) : tNext D σ H := h
theorem z_brk (h : D.bk σ H) : tBreak D σ H := h
theorem z_cont (h : D.ct σ H) : tCont D σ H := h
theorem z_asg {te : TE} {g : TG} (h : te σ H fun x H1 => g x σ H1 D.nx) : tAsg te g D σ H := h
theorem z_drop {te : TE} (h : te σ H fun _ H1 => D.nx σ H1) : tDrop te D σ H := h
theorem z_ret {te : TE} (h : te σ H D.rt) : tRet te D σ H := h
theorem z_retN (h : D.rt .non H) : tRetN D σ H := h
theorem z_ifs {c : TT} {t u : TS} (h : c σ H fun b H1 => if b = true then t D σ H1 else u D σ H1) : tIfS c t u D σ H := h
theorem z_cut {t u : TS} (h : ∃ Mid : L2.St → Hp → Prop, t { D with nx := Mid } σ H ∧ ∀ σ' H', Mid σ' H' → u D σ' H') : Evl.tCut t u D σ H := h
theorem z_aug {i : Nat} {x : V} {te : TE} {ti : TIp} (e : σ[i]? = some (some x)) (h : te σ H fun y H1 => ti x y H1 fun z H2 => D.nx (σ.set i (some z)) H2) : tAug i te ti D σ H := ⟨x, e, h⟩
def oFldS (K : PySem.W.Frag) (f : Str) (x y : V) (D : Hp → Prop) (H : Hp) : Prop := ∃ a C dx fs, x = .ref a ∧ H a = some (.ins C dx fs) ∧ Cls K C ∧ NoAttr K C f ∧ fs.length < 1000 ∧ D (upd H a (.ins C dx (putF f y fs)))
theorem z_flds {ta tv : TE} {f : Str} (h : tv σ H fun y H1 => ta σ H1 fun x H2 => oFldS K f x y (D.nx σ) H2) : sFld K ta tv f D σ H := h
theorem z_flds1 {f : Str} {a C dx : Addr} {fs : List (Str × V)} {y : V} {Q : Hp → Prop} (h1 : H a = some (.ins C dx fs)) (h2 : Cls K C) (h3 : NoAttr K C f) (h4 : fs.length < 1000) (h : ∀ H1, Fr [a] H H1 → H1 a = some (.ins C dx (putF f y fs)) → (∀ b, H b = none → H1 b = none) → Q H1) : oFldS K f (.ref a) y Q H :=
  ⟨a, C, dx, fs, rfl, h1, h2, h3, h4, h _ (Fr.at (by simp)) upd_same (fun b e => by rw [upd_ne (ne_of_none h1 e).symm]; exact e)⟩
def oDPut (x y v : V) (D : Hp → Prop) (H : Hp) : Prop := ∃ a H4, x = .ref a ∧ DPut H a y v H4 ∧ D H4
theorem z_dput {td ty tv : TE} (h : tv σ H fun v H1 => td σ H1 fun x H2 => ty σ H2 fun y H3 => oDPut x y v (D.nx σ) H3) : sDPut td ty tv D σ H := h
theorem upd_free {H : Hp} {a : Addr} {o u : HO} (h1 : H a = some u) : ∀ b, H b = none → upd H a o b = none := fun b e => by rw [upd_ne (ne_of_none h1 e).symm]; exact e
theorem z_dputI {a : Addr} {n : Int} {v : V} {kvs : List (Key × V)} {Q : Hp → Prop} (h1 : H a = some (.dK kvs)) (h2 : kvs.length < sizeLine) (h : ∀ H1, Fr [a] H H1 → H1 a = some (.dK (putK kvs (.inl n) v)) → (∀ b, H b = none → H1 b = none) → Q H1) : oDPut (.ref a) (.int n) v Q H :=
  ⟨a, _, rfl, DPut.k (k := Sum.inl n) h1 h2, h _ (Fr.at (by simp)) upd_same (upd_free h1)⟩
theorem z_dputS {a : Addr} {n : Str} {v : V} {kvs : List (Key × V)} {Q : Hp → Prop} (h1 : H a = some (.dK kvs)) (h2 : kvs.length < sizeLine) (h : ∀ H1, Fr [a] H H1 → H1 a = some (.dK (putK kvs (.inr n) v)) → (∀ b, H b = none → H1 b = none) → Q H1) : oDPut (.ref a) (.str n) v Q H :=
  ⟨a, _, rfl, DPut.k (k := Sum.inr n) h1 h2, h _ (Fr.at (by simp)) upd_same (upd_free h1)⟩
/-! ### targets -/
theorem z_gtup {n : Nat} {t : TGs} {a : Addr} {xs : List V} {Q : L2.St → Hp → Prop} (h1 : H a = some (.tup xs)) (h2 : xs.length = n) (h : t xs σ H Q) : gTup K n t (.ref a) σ H Q := ⟨a, xs, rfl, SqT.of h1, h2, h⟩
theorem z_gcons {t : TG} {u : TGs} {v : V} {r : List V} {Q : L2.St → Hp → Prop} (h : t v σ H fun σ' H' => u r σ' H' Q) : gCons t u (v :: r) σ H Q := ⟨v, r, rfl, h⟩
theorem z_gnil {Q : L2.St → Hp → Prop} (h : Q σ H) : gNil [] σ H Q := ⟨rfl, h⟩
theorem z_gsub {to ti : TE} {t : TSet} {v : V} {Q : L2.St → Hp → Prop} (h : to σ H fun o H1 => ti σ H1 fun i H2 => t o i v H2 fun H3 => Q σ H3) : gSub to ti t v σ H Q := h
theorem z_setL {p : Addr} {xs : List V} {k : Int} {j : Nat} {v : V} {Q : Hp → Prop} (h1 : H p = some (.lst xs)) (h2 : ixN xs.length k = some j) (h : ∀ H1, Fr [p] H H1 → H1 p = some (.lst (xs.set j v)) → (∀ b, H b = none → H1 b = none) → Q H1) : rSetL (.ref p) (.int k) v H Q :=
  ⟨p, xs, k, j, rfl, rfl, h1, h2, h _ (Fr.at (by simp)) upd_same (upd_free h1)⟩
/-! ### expressions -/
variable {Q : VK}
theorem z_c {v : V} (h : Q v H) : tC v σ H Q := h
theorem z_op {r : R2} {ta tb : TE} (h : ta σ H fun x H1 => tb σ H1 fun y H2 => r x y H2 Q) : tOp r ta tb σ H Q := h
theorem z_un {r : V → Hp → VK → Prop} {ta : TE} (h : ta σ H fun x H1 => r x H1 Q) : tUn r ta σ H Q := h
/-- a new thing -/
def oNew (o : HO) (n : Nat) (H : Hp) (Q : VK) : Prop := n ≤ sizeLine ∧ ∀ p, H p = none → Q (.ref p) (upd H p o)
theorem z_tup {t : TA} (h : t σ H fun xs H1 => oNew (.tup xs) xs.length H1 Q) : tTup t σ H Q := h
theorem z_lst {t : TA} (h : t σ H fun xs H1 => oNew (.lst xs) xs.length H1 Q) : tLst t σ H Q := h
theorem z_newL {n : Nat} {o : HO} (hn : n ≤ sizeLine) (h : ∀ p H1, H p = none → Fr [] H H1 → H1 p = some o → Q (.ref p) H1) : oNew o n H Q := ⟨hn, fun p hp => h p _ hp (Fr.new hp) upd_same⟩
theorem sz1 {n : Nat} (h : n ≤ 1000) : n ≤ sizeLine := by rw [sizeLine_eq]; omega
def rListU (K : PySem.W.Frag) : List V → Hp → VK → Prop := fun xs H Q => ∃ p ys, xs = [.ref p] ∧ (SqL K H p ys ∨ SqT K H p ys) ∧ ∀ l, H l = none → Q (.ref l) (upd H l (.lst ys))
theorem call_listU {X : Cx} : CallR X (.type "list") (rListU X.K) := call_list_of
theorem call_listUK {X : Cx} {K : PySem.W.Frag} (e : X.K = K) : CallR X (.type "list") (rListU K) := by subst e; exact call_listU
theorem z_new {o : HO} (h : ∀ p H1, H p = none → Fr [] H H1 → H1 p = some o → Q (.ref p) H1) : ∀ p, H p = none → Q (.ref p) (upd H p o) := fun p hp => h p _ hp (Fr.new hp) upd_same
theorem z_dnew (h : ∀ p H1, H p = none → Fr [] H H1 → H1 p = some (.dK []) → Q (.ref p) H1) : tDNewK σ H Q := fun p hp => h p _ hp (Fr.new hp) upd_same
theorem z_nil {Q : List V → Hp → Prop} (h : Q [] H) : tNil σ H Q := h
theorem z_cons {ta : TE} {tr : TA} {Q : List V → Hp → Prop} (h : ta σ H fun x H1 => tr σ H1 fun xs H2 => Q (x :: xs) H2) : tCons ta tr σ H Q := h
theorem z_cb {r : List V → Hp → VK → Prop} {t : TA} (h : t σ H fun vs H1 => r vs H1 Q) : tCB r t σ H Q := h
theorem z_call {sp : Sp} {dvs : List V} {E : XK} {t : TA} (h : t σ H fun vs H1 => sp (vs ++ dvs) H1 Q E) : tCall sp dvs E t σ H Q := h
def oMeth (C : Addr) (m : Str) (x : V) (R : Hp → Prop) (H : Hp) : Prop := ∃ a dx fs, x = .ref a ∧ H a = some (.ins C dx fs) ∧ fs.lookup m = none ∧ R H
theorem z_meth {C : Addr} {m : Str} {sp : Sp} {dvs : List V} {E : XK} {ta : TE} {t : TA} (h : ta σ H fun x H1 => oMeth C m x (fun H1 => t σ H1 fun vs H2 => sp (x :: (vs ++ dvs)) H2 Q E) H1) : tMeth C m sp dvs E ta t σ H Q := h
theorem z_meth1 {C : Addr} {m : Str} {a dx : Addr} {fs : List (Str × V)} {R : Hp → Prop} (h1 : H a = some (.ins C dx fs)) (h2 : fs.lookup m = none) (h : R H) : oMeth C m (.ref a) R H := ⟨a, dx, fs, rfl, h1, h2, h⟩
theorem z_make {C : Addr} {sp : Sp} {dvs : List V} {E : XK} {t : TA} (h : t σ H fun vs H1 => ∀ x dx, H1 x = none → H1 dx = none → dx ≠ x → sp (.ref x :: (vs ++ dvs)) (upd (upd H1 dx (.own x)) x (.ins C dx [])) (fun v H2 => v = .non ∧ Q (.ref x) H2) E) : tMake C sp dvs E t σ H Q := h
def oFld (K : PySem.W.Frag) (f : Str) (x : V) (H : Hp) (Q : VK) : Prop := ∃ a C dx fs v, x = .ref a ∧ H a = some (.ins C dx fs) ∧ Cls K C ∧ NoAttr K C f ∧ fs.lookup f = some v ∧ Q v H
theorem z_fld {ta : TE} {f : Str} (h : ta σ H fun x H1 => oFld K f x H1 Q) : tFld K ta f σ H Q := h
theorem z_fld1 {f : Str} {a C dx : Addr} {fs : List (Str × V)} {v : V} (h1 : H a = some (.ins C dx fs)) (h2 : Cls K C) (h3 : NoAttr K C f) (h4 : fs.lookup f = some v) (h : Q v H) : oFld K f (.ref a) H Q := ⟨a, C, dx, fs, v, rfl, h1, h2, h3, h4, h⟩
def oBl (x : V) (H : Hp) (Q : Bool → Hp → Prop) : Prop := ∃ k, x = .bl k ∧ Q k H
theorem z_test {t : TE} {Q : Bool → Hp → Prop} (h : t σ H fun x H' => oBl x H' Q) : tTest t σ H Q := h
theorem z_tB {t : TE} {Q : Bool → Hp → Prop} (h : t σ H fun x H' => oBl x H' Q) : tB t σ H Q := h
theorem z_bl {k : Bool} {Q : Bool → Hp → Prop} (h : Q k H) : oBl (.bl k) H Q := ⟨k, rfl, h⟩
def oTru (K : PySem.W.Frag) (x : V) (H : Hp) (Q : Bool → Hp → Prop) : Prop := ∃ k, TruV K x H k ∧ Q k H
theorem z_tru {ta : TE} {Q : Bool → Hp → Prop} (h : ta σ H fun x H' => oTru K x H' Q) : (fun (σ : L2.St) (H : Hp) (Q : Bool → Hp → Prop) => ta σ H fun x H' => ∃ k, TruV K x H' k ∧ Q k H') σ H Q := h
theorem z_truK {ta : TE} {Q : Bool → Hp → Prop} (h : ta σ H fun x H' => oTru K x H' Q) : tTruK K ta σ H Q := h
theorem z_truI {k : Bool → Prop} {x : V} (h : oTru K x H (fun b _ => k b)) : ∃ b, TruV K x H b ∧ k b := h
theorem z_notT {ta : TE} (h : ta σ H fun x H' => oTru K x H' fun k H' => Q (.bl (!k)) H') : tNotT K ta σ H Q := h
theorem z_truB {k : Bool} {Q : Bool → Hp → Prop} (h : Q k H) : oTru K (.bl k) H Q := ⟨k, rfl, h⟩
theorem z_truN {Q : Bool → Hp → Prop} (h : Q false H) : oTru K .non H Q := ⟨false, rfl, h⟩
theorem z_truZ {i : Int} {Q : Bool → Hp → Prop} (h : Q (i != 0) H) : oTru K (.int i) H Q := ⟨_, rfl, h⟩
theorem z_truS {y : Str} {Q : Bool → Hp → Prop} (hl : y.length ≤ sizeLine) (h : Q ((y.length : Int) != 0) H) : oTru K (.str y) H Q := ⟨_, ⟨hl, rfl⟩, h⟩
theorem z_truL {p : Addr} {xs : List V} {Q : Bool → Hp → Prop} (h1 : H p = some (.lst xs)) (h : Q (!xs.isEmpty) H) : oTru K (.ref p) H Q := ⟨_, .inl ⟨_, SqL.of h1, rfl⟩, h⟩
theorem z_truT {p : Addr} {xs : List V} {Q : Bool → Hp → Prop} (h1 : H p = some (.tup xs)) (h : Q (!xs.isEmpty) H) : oTru K (.ref p) H Q := ⟨_, .inr (.inl ⟨_, SqT.of h1, rfl⟩), h⟩
theorem z_truD {p : Addr} {kvs : List (Key × V)} {Q : Bool → Hp → Prop} (h1 : H p = some (.dK kvs)) (h : Q (!kvs.isEmpty) H) : oTru K (.ref p) H Q := ⟨_, .inr (.inr ⟨_, h1, rfl⟩), h⟩
theorem z_tand {t u : TT} {Q : Bool → Hp → Prop} (h : t σ H fun c H1 => if c = true then u σ H1 Q else Q false H1) : tAnd t u σ H Q := h
theorem z_tor {t u : TT} {Q : Bool → Hp → Prop} (h : t σ H fun c H1 => if c = true then Q true H1 else u σ H1 Q) : tOr t u σ H Q := h
theorem z_tnot {t : TT} {Q : Bool → Hp → Prop} (h : t σ H fun c H1 => Q (!c) H1) : tNot t σ H Q := h
theorem z_yes {Q : Bool → Hp → Prop} (h : Q true H) : tYes σ H Q := h
theorem z_andV {ta tb : TE} (h : ta σ H fun x H1 => oBl x H1 fun c H1 => if c = true then tb σ H1 Q else Q (.bl false) H1) : tAndV ta tb σ H Q := h
theorem z_orV {ta tb : TE} (h : ta σ H fun x H1 => oBl x H1 fun c H1 => if c = true then Q (.bl true) H1 else tb σ H1 Q) : tOrV ta tb σ H Q := h
theorem z_tIf {t : TT} {ta tb : TE} (h : t σ H fun c H1 => if c = true then ta σ H1 Q else tb σ H1 Q) : tIf t ta tb σ H Q := h
/-! ### operators -/
theorem z_addI {i j : Int} (h : Q (.int (i + j)) H) : rAddU K (.int i) (.int j) H Q := h
theorem z_addS {i j : Str} (hl : i.length + j.length ≤ sizeLine) (h : Q (.str (i ++ j)) H) : rAddU K (.str i) (.str j) H Q := ⟨hl, h⟩
theorem z_addL {a b : Addr} {xs zs : List V} (h1 : H a = some (.lst xs)) (h2 : H b = some (.lst zs)) (h3 : xs.length + zs.length ≤ sizeLine) (h : ∀ p H1, H p = none → Fr [] H H1 → H1 p = some (.lst (xs ++ zs)) → Q (.ref p) H1) : rAddU K (.ref a) (.ref b) H Q := Or.inl ⟨a, b, xs, zs, rfl, rfl, h1, h2, h3, z_new h⟩
theorem z_rI {C : Int → Int → Prop} {g : Int → Int → V} {i j : Int} (hc : C i j) (h : Q (g i j) H) : rI C g (.int i) (.int j) H Q := ⟨i, j, rfl, rfl, hc, h⟩
theorem z_rI0 {g : Int → Int → V} {i j : Int} (h : Q (g i j) H) : rI0 g (.int i) (.int j) H Q := ⟨i, j, rfl, rfl, h⟩
theorem z_mulI {i j : Int} (hc : CMul i j) (h : Q (.int (i * j)) H) : rMulU (.int i) (.int j) H Q := ⟨hc, h⟩
theorem z_rep {l : Addr} {xs : List V} {k : Int} (n : Nat) (h1 : H l = some (.lst xs)) (hk : k = (n : Int)) (hn : n < 2 ^ 63) (h3 : xs.length * n ≤ sizeLine) (h : ∀ p H1, H p = none → Fr [] H H1 → H1 p = some (.lst (List.replicate n xs).flatten) → Q (.ref p) H1) : rMulU (.ref l) (.int k) H Q := by
  subst hk
  exact ⟨l, n, xs, rfl, rfl, h1, by omega, by omega, by rw [Int.toNat_natCast]; exact h3, z_new (by rw [Int.toNat_natCast]; exact h)⟩
theorem z_rU {g : Int → V} {i : Int} (h : Q (g i) H) : rU g (.int i) H Q := ⟨i, rfl, h⟩
theorem z_ordI {f : Int → Int → Bool} {g : List Nat → List Nat → Bool} {i j : Int} (h : Q (.bl (f i j)) H) : rOrd f g (.int i) (.int j) H Q := h
theorem z_ordS {f : Int → Int → Bool} {g : List Nat → List Nat → Bool} {i j : Str} (h : Q (.bl (g i.cps.toList j.cps.toList)) H) : rOrd f g (.str i) (.str j) H Q := h
theorem z_eqI {i j : Int} (h : Q (.bl (decide (i = j))) H) : rEqU K id (.int i) (.int j) H Q := ⟨rfl, by show Q (.bl (decide (V.int i = V.int j))) H; rw [I_dec]; exact h⟩
theorem z_neI {i j : Int} (h : Q (.bl (!decide (i = j))) H) : rEqU K (!·) (.int i) (.int j) H Q := ⟨rfl, by show Q (.bl (!decide (V.int i = V.int j))) H; rw [I_dec]; exact h⟩
theorem S_dec (a b : Str) : decide (V.str a = V.str b) = decide (a = b) := by
  by_cases h : a = b
  · subst h; simp
  · have : ¬ V.str a = V.str b := fun z => h (V.str.inj z)
    rw [decide_eq_false this, decide_eq_false h]
theorem z_eqS {i j : Str} (h : Q (.bl (decide (i = j))) H) : rEqU K id (.str i) (.str j) H Q := ⟨rfl, by show Q (.bl (decide (V.str i = V.str j))) H; rw [S_dec]; exact h⟩
theorem z_neS {i j : Str} (h : Q (.bl (!decide (i = j))) H) : rEqU K (!·) (.str i) (.str j) H Q := ⟨rfl, by show Q (.bl (!decide (V.str i = V.str j))) H; rw [S_dec]; exact h⟩
theorem z_isNP {x : V} (h : Q (.bl ((decide (x = .non)))) H) : rIsU id x .non H Q := h
theorem z_isNQ {x : V} (h : Q (.bl (!(decide (x = .non)))) H) : rIsU (!·) x .non H Q := h
theorem z_isNiP {i : Int} (h : Q (.bl false) H) : rIsU id (.int i) .non H Q := h
theorem z_isNiN {i : Int} (h : Q (.bl true) H) : rIsU (!·) (.int i) .non H Q := h
theorem z_isNsP {i : Str} (h : Q (.bl false) H) : rIsU id (.str i) .non H Q := h
theorem z_isNsN {i : Str} (h : Q (.bl true) H) : rIsU (!·) (.str i) .non H Q := h
theorem z_isNrP {a : Addr} (h : Q (.bl false) H) : rIsU id (.ref a) .non H Q := h
theorem z_isNrN {a : Addr} (h : Q (.bl true) H) : rIsU (!·) (.ref a) .non H Q := h
theorem z_isNbP {b : Bool} (h : Q (.bl false) H) : rIsU id (.bl b) .non H Q := h
theorem z_isNbN {b : Bool} (h : Q (.bl true) H) : rIsU (!·) (.bl b) .non H Q := h
theorem z_isNnP (h : Q (.bl true) H) : rIsU id .non .non H Q := h
theorem z_isNnN (h : Q (.bl false) H) : rIsU (!·) .non .non H Q := h
theorem z_isBP {x : V} {b : Bool} (h : Q (.bl ((decide (x = .bl b)))) H) : rIsU id x (.bl b) H Q := h
theorem z_isBQ {x : V} {b : Bool} (h : Q (.bl (!(decide (x = .bl b)))) H) : rIsU (!·) x (.bl b) H Q := h
theorem z_ixL {p : Addr} {xs : List V} {i : Int} {v : V} (h1 : H p = some (.lst xs)) (h2 : atI xs i = some v) (h : Q v H) : rIxU K (.ref p) (.int i) H Q := Or.inl ⟨xs, i, v, rfl, Or.inl (SqL.of h1), h2, h⟩
theorem z_ixT {p : Addr} {xs : List V} {i : Int} {v : V} (h1 : H p = some (.tup xs)) (h2 : atI xs i = some v) (h : Q v H) : rIxU K (.ref p) (.int i) H Q := Or.inl ⟨xs, i, v, rfl, Or.inr (SqT.of h1), h2, h⟩
theorem z_ixD {p : Addr} {kvs : List (Key × V)} {n : Int} {v : V} (h1 : H p = some (.dK kvs)) (h2 : valV kvs (.inl n) = some v) (h : Q v H) : rIxU K (.ref p) (.int n) H Q := Or.inr ⟨v, by rw [← h2]; exact DGet.k (k := Sum.inl n) h1, h⟩
theorem z_ixDf {p : Addr} {kvs : List (Key × V)} {od : Obj} {n : Int} {v : V} (h1 : H p = some (.frz od (.dK kvs))) (h2 : valV kvs (.inl n) = some v) (h : Q v H) : rIxU K (.ref p) (.int n) H Q := Or.inr ⟨v, by rw [← h2]; exact .inl ⟨kvs, .inl n, .inr ⟨od, h1⟩, rfl, rfl⟩, h⟩
theorem z_ixDS {p : Addr} {kvs : List (Key × V)} {n : Str} {v : V} (h1 : H p = some (.dK kvs)) (h2 : valV kvs (.inr n) = some v) (h : Q v H) : rIxU K (.ref p) (.str n) H Q := Or.inr ⟨v, by rw [← h2]; exact DGet.k (k := Sum.inr n) h1, h⟩
theorem z_ixS {z : Str} {i : Int} {c : Nat} (h1 : z.length ≤ sizeLine) (h2 : atI z.cps.toList i = some c) (h : Q (.str ⟨#[c]⟩) H) : rIxU K (.str z) (.int i) H Q := ⟨i, c, rfl, h1, h2, h⟩
theorem z_inDIP {p : Addr} {kvs : List (Key × V)} {n : Int} (h1 : H p = some (.dK kvs)) (h : Q (.bl ((valV kvs (.inl n)).isSome)) H) : rInU K id (.int n) (.ref p) H Q := Or.inr ⟨_, DGet.k (k := Sum.inl n) h1, h⟩
theorem z_inDIN {p : Addr} {kvs : List (Key × V)} {n : Int} (h1 : H p = some (.dK kvs)) (h : Q (.bl (!(valV kvs (.inl n)).isSome)) H) : rInU K (!·) (.int n) (.ref p) H Q := Or.inr ⟨_, DGet.k (k := Sum.inl n) h1, h⟩
theorem z_inDfP {p : Addr} {kvs : List (Key × V)} {od : Obj} {n : Int} (h1 : H p = some (.frz od (.dK kvs))) (h : Q (.bl ((valV kvs (.inl n)).isSome)) H) : rInU K id (.int n) (.ref p) H Q := Or.inr ⟨_, .inl ⟨kvs, .inl n, .inr ⟨od, h1⟩, rfl, rfl⟩, h⟩
theorem z_inDfN {p : Addr} {kvs : List (Key × V)} {od : Obj} {n : Int} (h1 : H p = some (.frz od (.dK kvs))) (h : Q (.bl (!(valV kvs (.inl n)).isSome)) H) : rInU K (!·) (.int n) (.ref p) H Q := Or.inr ⟨_, .inl ⟨kvs, .inl n, .inr ⟨od, h1⟩, rfl, rfl⟩, h⟩
theorem z_inDSP {p : Addr} {kvs : List (Key × V)} {n : Str} (h1 : H p = some (.dK kvs)) (h : Q (.bl ((valV kvs (.inr n)).isSome)) H) : rInU K id (.str n) (.ref p) H Q := Or.inr ⟨_, DGet.k (k := Sum.inr n) h1, h⟩
theorem z_inDSN {p : Addr} {kvs : List (Key × V)} {n : Str} (h1 : H p = some (.dK kvs)) (h : Q (.bl (!(valV kvs (.inr n)).isSome)) H) : rInU K (!·) (.str n) (.ref p) H Q := Or.inr ⟨_, DGet.k (k := Sum.inr n) h1, h⟩
theorem z_inLP {p : Addr} {xs : List V} {x : V} (h1 : H p = some (.lst xs)) (h2 : flatV x = true) (h3 : xs.all flatV = true) (h : Q (.bl ((inV x xs))) H) : rInU K id x (.ref p) H Q := Or.inl ⟨xs, Or.inl (SqL.of h1), h2, h3, h⟩
theorem z_inLN {p : Addr} {xs : List V} {x : V} (h1 : H p = some (.lst xs)) (h2 : flatV x = true) (h3 : xs.all flatV = true) (h : Q (.bl (!(inV x xs))) H) : rInU K (!·) x (.ref p) H Q := Or.inl ⟨xs, Or.inl (SqL.of h1), h2, h3, h⟩
theorem z_inTP {p : Addr} {xs : List V} {x : V} (h1 : H p = some (.tup xs)) (h2 : flatV x = true) (h3 : xs.all flatV = true) (h : Q (.bl ((inV x xs))) H) : rInU K id x (.ref p) H Q := Or.inl ⟨xs, Or.inr (SqT.of h1), h2, h3, h⟩
theorem z_inTN {p : Addr} {xs : List V} {x : V} (h1 : H p = some (.tup xs)) (h2 : flatV x = true) (h3 : xs.all flatV = true) (h : Q (.bl (!(inV x xs))) H) : rInU K (!·) x (.ref p) H Q := Or.inl ⟨xs, Or.inr (SqT.of h1), h2, h3, h⟩
def tSlO := @tSl
theorem z_sl {r : V → Option Int → Option Int → Hp → VK → Prop} {te : TE} {tl th : TO} (h : te σ H fun x H1 => tl σ H1 fun l H2 => th σ H2 fun u H3 => r x l u H3 Q) : tSl r te tl th σ H Q := h
theorem z_nopart {Q : Option Int → Hp → Prop} (h : Q none H) : tNoPart σ H Q := h
def oPart (x : V) (H : Hp) (Q : Option Int → Hp → Prop) : Prop := ∃ i, x = .int i ∧ Q (some i) H
theorem z_part {t : TE} {Q : Option Int → Hp → Prop} (h : t σ H fun x H1 => oPart x H1 Q) : tPart t σ H Q := h
theorem z_part1 {i : Int} {Q : Option Int → Hp → Prop} (h : Q (some i) H) : oPart (.int i) H Q := ⟨i, rfl, h⟩
theorem z_slS {z : Str} {lo hi : Option Int} (h1 : z.length ≤ sizeLine) (h : Q (.str (cutS z lo hi)) H) : rSlU K (.str z) lo hi H Q := ⟨h1, h⟩
theorem z_slL {a : Addr} {xs : List V} {lo hi : Option Int} (h1 : H a = some (.lst xs)) (h : ∀ p H1, H p = none → Fr [] H H1 → H1 p = some (.lst (cutV xs lo hi)) → Q (.ref p) H1) : rSlU K (.ref a) lo hi H Q := Or.inl ⟨a, xs, rfl, SqL.of h1, z_new h⟩
/-! ### builtins -/
theorem z_lenS {z : Str} (h1 : z.length ≤ sizeLine) (h : Q (.int z.length) H) : rLenU K [.str z] H Q := ⟨h1, h⟩
theorem z_lenL {p : Addr} {ys : List V} (h1 : H p = some (.lst ys)) (h : Q (.int ys.length) H) : rLenU K [.ref p] H Q := Or.inl ⟨ys, Or.inl (SqL.of h1), h⟩
theorem z_lenT {p : Addr} {ys : List V} (h1 : H p = some (.tup ys)) (h : Q (.int ys.length) H) : rLenU K [.ref p] H Q := Or.inl ⟨ys, Or.inr (SqT.of h1), h⟩
theorem z_lenD {p : Addr} {kvs : List (Key × V)} (h1 : H p = some (.dK kvs)) (h : Q (.int kvs.length) H) : rLenU K [.ref p] H Q := Or.inr ⟨kvs, h1, h⟩
theorem z_intI {i : Int} (h : Q (.int i) H) : rIntU [.int i] H Q := h
theorem z_intB {k : Bool} (h : Q (.int (if k then 1 else 0)) H) : rIntU [.bl k] H Q := h
theorem z_isi {x c : V} {t u : Value} {b : Bool} (h1 : ClsV c u) (h2 : TyX K H x t) (h3 : PySem.W.kitOne K t u = some b) (h : Q (.bl b) H) : rIsi K [x, c] H Q := ⟨x, c, t, u, b, rfl, h1, h2, h3, h⟩
theorem z_isi_int_int {i : Int} (h : Q (.bl true) H) : rIsi K [.int i, .ty "int"] H Q := z_isi (ClsV.ty _) (TyX.base (TyOf.int _)) kt_int_int h
theorem z_isi_int_bool {i : Int} (h : Q (.bl false) H) : rIsi K [.int i, .ty "bool"] H Q := z_isi (ClsV.ty _) (TyX.base (TyOf.int _)) kt_int_bool h
theorem z_isi_int_str {i : Int} (h : Q (.bl false) H) : rIsi K [.int i, .ty "str"] H Q := z_isi (ClsV.ty _) (TyX.base (TyOf.int _)) kt_int_str h
theorem z_isi_int_list {i : Int} (h : Q (.bl false) H) : rIsi K [.int i, .ty "list"] H Q := z_isi (ClsV.ty _) (TyX.base (TyOf.int _)) kt_int_list h
theorem z_isi_int_tuple {i : Int} (h : Q (.bl false) H) : rIsi K [.int i, .ty "tuple"] H Q := z_isi (ClsV.ty _) (TyX.base (TyOf.int _)) kt_int_tuple h
theorem z_isi_int_dict {i : Int} (h : Q (.bl false) H) : rIsi K [.int i, .ty "dict"] H Q := z_isi (ClsV.ty _) (TyX.base (TyOf.int _)) kt_int_dict h
theorem z_isi_str_int {i : Str} (h : Q (.bl false) H) : rIsi K [.str i, .ty "int"] H Q := z_isi (ClsV.ty _) (TyX.base (TyOf.str _)) kt_str_int h
theorem z_isi_str_bool {i : Str} (h : Q (.bl false) H) : rIsi K [.str i, .ty "bool"] H Q := z_isi (ClsV.ty _) (TyX.base (TyOf.str _)) kt_str_bool h
theorem z_isi_str_str {i : Str} (h : Q (.bl true) H) : rIsi K [.str i, .ty "str"] H Q := z_isi (ClsV.ty _) (TyX.base (TyOf.str _)) kt_str_str h
theorem z_isi_str_list {i : Str} (h : Q (.bl false) H) : rIsi K [.str i, .ty "list"] H Q := z_isi (ClsV.ty _) (TyX.base (TyOf.str _)) kt_str_list h
theorem z_isi_str_tuple {i : Str} (h : Q (.bl false) H) : rIsi K [.str i, .ty "tuple"] H Q := z_isi (ClsV.ty _) (TyX.base (TyOf.str _)) kt_str_tuple h
theorem z_isi_str_dict {i : Str} (h : Q (.bl false) H) : rIsi K [.str i, .ty "dict"] H Q := z_isi (ClsV.ty _) (TyX.base (TyOf.str _)) kt_str_dict h
theorem z_isi_bool_int {i : Bool} (h : Q (.bl true) H) : rIsi K [.bl i, .ty "int"] H Q := z_isi (ClsV.ty _) (TyX.base (TyOf.bl _)) kt_bool_int h
theorem z_isi_bool_bool {i : Bool} (h : Q (.bl true) H) : rIsi K [.bl i, .ty "bool"] H Q := z_isi (ClsV.ty _) (TyX.base (TyOf.bl _)) kt_bool_bool h
theorem z_isi_bool_str {i : Bool} (h : Q (.bl false) H) : rIsi K [.bl i, .ty "str"] H Q := z_isi (ClsV.ty _) (TyX.base (TyOf.bl _)) kt_bool_str h
theorem z_isi_bool_list {i : Bool} (h : Q (.bl false) H) : rIsi K [.bl i, .ty "list"] H Q := z_isi (ClsV.ty _) (TyX.base (TyOf.bl _)) kt_bool_list h
theorem z_isi_bool_tuple {i : Bool} (h : Q (.bl false) H) : rIsi K [.bl i, .ty "tuple"] H Q := z_isi (ClsV.ty _) (TyX.base (TyOf.bl _)) kt_bool_tuple h
theorem z_isi_bool_dict {i : Bool} (h : Q (.bl false) H) : rIsi K [.bl i, .ty "dict"] H Q := z_isi (ClsV.ty _) (TyX.base (TyOf.bl _)) kt_bool_dict h
theorem z_isi_NoneType_int  (h : Q (.bl false) H) : rIsi K [.non, .ty "int"] H Q := z_isi (ClsV.ty _) (TyX.base (TyOf.non)) kt_NoneType_int h
theorem z_isi_NoneType_bool  (h : Q (.bl false) H) : rIsi K [.non, .ty "bool"] H Q := z_isi (ClsV.ty _) (TyX.base (TyOf.non)) kt_NoneType_bool h
theorem z_isi_NoneType_str  (h : Q (.bl false) H) : rIsi K [.non, .ty "str"] H Q := z_isi (ClsV.ty _) (TyX.base (TyOf.non)) kt_NoneType_str h
theorem z_isi_NoneType_list  (h : Q (.bl false) H) : rIsi K [.non, .ty "list"] H Q := z_isi (ClsV.ty _) (TyX.base (TyOf.non)) kt_NoneType_list h
theorem z_isi_NoneType_tuple  (h : Q (.bl false) H) : rIsi K [.non, .ty "tuple"] H Q := z_isi (ClsV.ty _) (TyX.base (TyOf.non)) kt_NoneType_tuple h
theorem z_isi_NoneType_dict  (h : Q (.bl false) H) : rIsi K [.non, .ty "dict"] H Q := z_isi (ClsV.ty _) (TyX.base (TyOf.non)) kt_NoneType_dict h
theorem z_isi0 {a : Addr} {c : V} {t u : Value} {b : Bool} (h1 : ClsV c u) (h2 : TyX K H (.ref a) t) (h3 : PySem.W.kitOne K t u = some b) (h : Q (.bl b) H) : rIsi K [.ref a, c] H Q := z_isi h1 h2 h3 h
theorem z_listL {p : Addr} {ys : List V} (h1 : H p = some (.lst ys)) (h : ∀ l H1, H l = none → Fr [] H H1 → H1 l = some (.lst ys) → Q (.ref l) H1) : rListU K [V.ref p] H Q := ⟨p, ys, rfl, Or.inl (SqL.of h1), z_new h⟩
/-! ### methods of lists -/
def oBM (K : PySem.W.Frag) (T : String) (x : V) (R : Hp → Prop) (H : Hp) : Prop := tyV K T x H ∧ R H
theorem z_bm0 {T : String} {r : V → List V → Hp → VK → Prop} {to : TE} (h : to σ H fun x H1 => oBM K T x (fun H1 => r x [] H1 Q) H1) : tBM0 K T r to σ H Q := h
theorem z_bm {T : String} {r : V → List V → Hp → VK → Prop} {to : TE} {t : TA} (h : to σ H fun x H1 => oBM K T x (fun H1 => t σ H1 fun xs H2 => r x xs H2 Q) H1) : tBM K T r to t σ H Q := h
theorem z_bmL {p : Addr} {xs : List V} {R : Hp → Prop} (h1 : H p = some (.lst xs)) (h : R H) : oBM K "list" (.ref p) R H := ⟨Or.inl ⟨rfl, xs, SqL.of h1⟩, h⟩
theorem z_bmS {z : Str} {R : Hp → Prop} (h : R H) : oBM K "str" (.str z) R H := ⟨rfl, h⟩
theorem z_append {l : Addr} {xs : List V} {y : V} (h1 : H l = some (.lst xs)) (h2 : xs.length < sizeLine) (h : ∀ H1, Fr [l] H H1 → H1 l = some (.lst (xs ++ [y])) → (∀ b, H b = none → H1 b = none) → Q .non H1) : rAppend (.ref l) [y] H Q := ⟨l, xs, y, rfl, rfl, h1, h2, h _ (Fr.at (by simp)) upd_same (upd_free h1)⟩
theorem z_extend {l b : Addr} {xs zs : List V} (h1 : H l = some (.lst xs)) (h2 : H b = some (.lst zs)) (h3 : xs.length + zs.length ≤ sizeLine) (h : ∀ H1, Fr [l] H H1 → H1 l = some (.lst (xs ++ zs)) → (∀ b, H b = none → H1 b = none) → Q .non H1) : rExtend (.ref l) [.ref b] H Q := ⟨l, b, xs, zs, rfl, rfl, h1, h2, h3, h _ (Fr.at (by simp)) upd_same (upd_free h1)⟩
theorem z_pop {l : Addr} {xs : List V} {y : V} (h1 : H l = some (.lst xs)) (h2 : xs[xs.length - 1]? = some y) (h : ∀ H1, Fr [l] H H1 → H1 l = some (.lst xs.dropLast) → (∀ b, H b = none → H1 b = none) → Q y H1) : rPop (.ref l) [] H Q := ⟨l, xs, y, rfl, rfl, h1, h2, h _ (Fr.at (by simp)) upd_same (upd_free h1)⟩
/-! ### the heap behind an in-place change, seen from the entry: q is new since H0 -/
theorem Fr.in {H0 H H1 : Hp} {q : Addr} (f : Fr [] H0 H) (g : Fr [q] H H1) (hq : H0 q = Option.none) : Fr [] H0 H1 := fun b o e _ => g b o (f.g0 e) (by
  have : b ≠ q := fun z => by rw [z, hq] at e; cases e
  simpa using this)
/-! ### loops' heads -/
theorem z_for {wi : TI} {g : TG} {tb : TS} (h : wi σ H fun J H1 => ∃ W : Nat → Nat → L2.St → Hp → Prop, (∃ m, W 0 m σ H1) ∧ ∀ i m σ H, W i m σ H →
  (J.stop i H ∧ D.nx σ H) ∨ (J.go i H ∧ ∃ N : L2.St → Hp → Prop, (∀ σ' H', N σ' H' → ∃ m', m' < m ∧ W (i + 1) m' σ' H') ∧ ∀ x H', J.yld i H x H' → g x σ H' fun σ2 H2 => tb { D with nx := N, ct := N, bk := D.nx } σ2 H2)) : tFor wi g tb D σ H := h
def oIter (K : PySem.W.Frag) (x : V) (H : Hp) (R : It → Hp → Prop) : Prop := ∃ a, x = .ref a ∧ (∃ xs, SqL K H a xs) ∧ R (Itl K a) H
theorem z_iList {tl : TE} {R : It → Hp → Prop} (h : tl σ H fun x H1 => oIter K x H1 R) : iList K tl σ H R := h
theorem z_iList1 {p : Addr} {xs : List V} {R : It → Hp → Prop} (h1 : H p = some (.lst xs)) (h : R (Itl K p) H) : oIter K (.ref p) H R := ⟨p, rfl, ⟨xs, SqL.of h1⟩, h⟩
def oRng1 (vs : List V) (H : Hp) (R : It → Hp → Prop) : Prop := ∃ j : Int, vs = [.int j] ∧ -(2 ^ 62) ≤ j ∧ j < 2 ^ 62 ∧ R (Itr 0 j.toNat) H
theorem z_iRng1 {ta : TA} {R : It → Hp → Prop} (h : ta σ H fun vs H1 => oRng1 vs H1 R) : iRng1 ta σ H R := h
theorem z_rng1 {j : Int} (n : Nat) {R : It → Hp → Prop} (e : j = (n : Int)) (h1 : n < 2 ^ 62) (h : R (Itr 0 n) H) : oRng1 [.int j] H R := ⟨j, rfl, by omega, by omega, by subst e; rw [Int.toNat_natCast]; exact h⟩
def oRng2 (vs : List V) (H : Hp) (R : It → Hp → Prop) : Prop := ∃ i j : Int, vs = [.int i, .int j] ∧ (-(2 ^ 62) ≤ i ∧ i < 2 ^ 62 ∧ -(2 ^ 62) ≤ j ∧ j < 2 ^ 62) ∧ R (Itr i (j - i).toNat) H
theorem z_iRng2 {ta : TA} {R : It → Hp → Prop} (h : ta σ H fun vs H1 => oRng2 vs H1 R) : iRng2 ta σ H R := h
theorem z_rng2 {i j : Int} (n : Nat) {R : It → Hp → Prop} (e : (j - i).toNat = n) (h1 : -(2 ^ 62) ≤ i ∧ i < 2 ^ 62 ∧ -(2 ^ 62) ≤ j ∧ j < 2 ^ 62) (h : R (Itr i n) H) : oRng2 [.int i, .int j] H R := ⟨i, j, rfl, h1, by rw [e]; exact h⟩
/-- a comprehension's loop -/
def oLc (J : It) (g : TG) (tt : TT) (te : TE) (vs : List Nat) (σ : L2.St) (H1 : Hp) (Q : VK) : Prop := ∀ D, H1 D = none → ∃ W : Nat → Nat → Hp → Prop, (∃ m, W 0 m (upd H1 D (.lst []))) ∧ ∀ i m H, W i m H →
  (J.stop i H ∧ Q (.ref D) H) ∨ (J.go i H ∧ ∃ N : Hp → Prop, (∀ H', N H' → ∃ m', m' < m ∧ W (i + 1) m' H') ∧ ∀ x H', J.yld i H x H' → g x (wipe σ vs) H' fun σ2 H2 => wipe σ2 vs = wipe σ vs ∧ tt σ2 H2 fun b H3 =>
    if b = true then te σ2 H3 fun y H4 => ∃ acc, H4 D = some (.lst acc) ∧ acc.length < sizeLine ∧ N (upd H4 D (.lst (acc ++ [y]))) else N H3)
theorem z_lc {wi : TI} {g : TG} {tt : TT} {te : TE} {vs : List Nat} (h : wi σ H fun J H1 => oLc J g tt te vs σ H1 Q) : tLc wi g tt te vs σ H Q := h
theorem z_iteTT {A B : Prop} (h : A) : if true = true then A else B := iteT h
theorem z_iteFF {A B : Prop} (h : B) : if false = true then A else B := iteF h
theorem z_iteNT {A B : Prop} (h : B) : if (!true) = true then A else B := h
theorem z_iteNF {A B : Prop} (h : A) : if (!false) = true then A else B := h
theorem z_iteS1 {α : Type} {v : α} {A B : Prop} (h : A) : if (some v).isSome = true then A else B := h
theorem z_iteS2 {α : Type} {v : α} {A B : Prop} (h : B) : if (!(some v).isSome) = true then A else B := h
theorem z_iteS3 {α : Type} {A B : Prop} (h : B) : if (none : Option α).isSome = true then A else B := h
theorem z_iteS4 {α : Type} {A B : Prop} (h : A) : if (!(none : Option α).isSome) = true then A else B := h
theorem z_lockAsg {te : TE} {i : Nat} (h : tLockE te σ H fun x H1 => gName i x σ H1 D.nx) : tLock (tAsg te (gName i)) D σ H := h
theorem z_sortedL {a : Addr} {ns : List Int} (h1 : H a = some (.lst (ns.map V.int))) (h : ∀ (ns' : List Int) p H1, ns'.Perm ns → ns'.Pairwise (· ≤ ·) → H p = none → Fr [] H H1 → H1 p = some (.lst (ns'.map V.int)) → Q (.ref p) H1) : rSortedU K [.ref a] H Q := ⟨a, ns, rfl, Or.inl (SqL.of h1), fun ns' p e1 e2 hp => h ns' p _ e1 e2 hp (Fr.new hp) upd_same⟩
theorem z_sortedD {a : Addr} {kvs : List (Key × V)} {ns : List Int} (h1 : H a = some (.dK kvs)) (h2 : kvs.map (·.1) = ns.map Sum.inl) (h : ∀ (ns' : List Int) p H1, ns'.Perm ns → ns'.Pairwise (· ≤ ·) → H p = none → Fr [] H H1 → H1 p = some (.lst (ns'.map V.int)) → Q (.ref p) H1) : rSortedU K [.ref a] H Q := ⟨a, ns, rfl, Or.inr ⟨kvs, Rd.of h1, h2⟩, fun ns' p e1 e2 hp => h ns' p _ e1 e2 hp (Fr.new hp) upd_same⟩
theorem z_start {N : List Str} {vs : List V} {t : TS} {σ : L2.St} (e : L2.start N vs = σ) (h : t D σ H) : t D (L2.start N vs) H := by rw [e]; exact h
theorem z_ok {A B : Prop} (a : A) (b : B) : A ∧ B := ⟨a, b⟩
theorem z_var0 {v : V} {l : L2.St} (h : Q v H) : tVar 0 (some v :: l) H Q := ⟨v, rfl, h⟩
theorem z_nm0 {y : Option V} {v : V} {l : L2.St} {Q : L2.St → Hp → Prop} (h : Q (some v :: l) H) : gName 0 v (y :: l) H Q := h
theorem z_var1 {x0 : Option V} {v : V} {l : L2.St} (h : Q v H) : tVar 1 (x0 :: some v :: l) H Q := ⟨v, rfl, h⟩
theorem z_nm1 {x0 : Option V} {y : Option V} {v : V} {l : L2.St} {Q : L2.St → Hp → Prop} (h : Q (x0 :: some v :: l) H) : gName 1 v (x0 :: y :: l) H Q := h
theorem z_var2 {x0 x1 : Option V} {v : V} {l : L2.St} (h : Q v H) : tVar 2 (x0 :: x1 :: some v :: l) H Q := ⟨v, rfl, h⟩
theorem z_nm2 {x0 x1 : Option V} {y : Option V} {v : V} {l : L2.St} {Q : L2.St → Hp → Prop} (h : Q (x0 :: x1 :: some v :: l) H) : gName 2 v (x0 :: x1 :: y :: l) H Q := h
theorem z_var3 {x0 x1 x2 : Option V} {v : V} {l : L2.St} (h : Q v H) : tVar 3 (x0 :: x1 :: x2 :: some v :: l) H Q := ⟨v, rfl, h⟩
theorem z_nm3 {x0 x1 x2 : Option V} {y : Option V} {v : V} {l : L2.St} {Q : L2.St → Hp → Prop} (h : Q (x0 :: x1 :: x2 :: some v :: l) H) : gName 3 v (x0 :: x1 :: x2 :: y :: l) H Q := h
theorem z_var4 {x0 x1 x2 x3 : Option V} {v : V} {l : L2.St} (h : Q v H) : tVar 4 (x0 :: x1 :: x2 :: x3 :: some v :: l) H Q := ⟨v, rfl, h⟩
theorem z_nm4 {x0 x1 x2 x3 : Option V} {y : Option V} {v : V} {l : L2.St} {Q : L2.St → Hp → Prop} (h : Q (x0 :: x1 :: x2 :: x3 :: some v :: l) H) : gName 4 v (x0 :: x1 :: x2 :: x3 :: y :: l) H Q := h
theorem z_var5 {x0 x1 x2 x3 x4 : Option V} {v : V} {l : L2.St} (h : Q v H) : tVar 5 (x0 :: x1 :: x2 :: x3 :: x4 :: some v :: l) H Q := ⟨v, rfl, h⟩
theorem z_nm5 {x0 x1 x2 x3 x4 : Option V} {y : Option V} {v : V} {l : L2.St} {Q : L2.St → Hp → Prop} (h : Q (x0 :: x1 :: x2 :: x3 :: x4 :: some v :: l) H) : gName 5 v (x0 :: x1 :: x2 :: x3 :: x4 :: y :: l) H Q := h
theorem z_var6 {x0 x1 x2 x3 x4 x5 : Option V} {v : V} {l : L2.St} (h : Q v H) : tVar 6 (x0 :: x1 :: x2 :: x3 :: x4 :: x5 :: some v :: l) H Q := ⟨v, rfl, h⟩
theorem z_nm6 {x0 x1 x2 x3 x4 x5 : Option V} {y : Option V} {v : V} {l : L2.St} {Q : L2.St → Hp → Prop} (h : Q (x0 :: x1 :: x2 :: x3 :: x4 :: x5 :: some v :: l) H) : gName 6 v (x0 :: x1 :: x2 :: x3 :: x4 :: x5 :: y :: l) H Q := h
theorem z_var7 {x0 x1 x2 x3 x4 x5 x6 : Option V} {v : V} {l : L2.St} (h : Q v H) : tVar 7 (x0 :: x1 :: x2 :: x3 :: x4 :: x5 :: x6 :: some v :: l) H Q := ⟨v, rfl, h⟩
theorem z_nm7 {x0 x1 x2 x3 x4 x5 x6 : Option V} {y : Option V} {v : V} {l : L2.St} {Q : L2.St → Hp → Prop} (h : Q (x0 :: x1 :: x2 :: x3 :: x4 :: x5 :: x6 :: some v :: l) H) : gName 7 v (x0 :: x1 :: x2 :: x3 :: x4 :: x5 :: x6 :: y :: l) H Q := h
theorem z_var8 {x0 x1 x2 x3 x4 x5 x6 x7 : Option V} {v : V} {l : L2.St} (h : Q v H) : tVar 8 (x0 :: x1 :: x2 :: x3 :: x4 :: x5 :: x6 :: x7 :: some v :: l) H Q := ⟨v, rfl, h⟩
theorem z_nm8 {x0 x1 x2 x3 x4 x5 x6 x7 : Option V} {y : Option V} {v : V} {l : L2.St} {Q : L2.St → Hp → Prop} (h : Q (x0 :: x1 :: x2 :: x3 :: x4 :: x5 :: x6 :: x7 :: some v :: l) H) : gName 8 v (x0 :: x1 :: x2 :: x3 :: x4 :: x5 :: x6 :: x7 :: y :: l) H Q := h
theorem z_var9 {x0 x1 x2 x3 x4 x5 x6 x7 x8 : Option V} {v : V} {l : L2.St} (h : Q v H) : tVar 9 (x0 :: x1 :: x2 :: x3 :: x4 :: x5 :: x6 :: x7 :: x8 :: some v :: l) H Q := ⟨v, rfl, h⟩
theorem z_nm9 {x0 x1 x2 x3 x4 x5 x6 x7 x8 : Option V} {y : Option V} {v : V} {l : L2.St} {Q : L2.St → Hp → Prop} (h : Q (x0 :: x1 :: x2 :: x3 :: x4 :: x5 :: x6 :: x7 :: x8 :: some v :: l) H) : gName 9 v (x0 :: x1 :: x2 :: x3 :: x4 :: x5 :: x6 :: x7 :: x8 :: y :: l) H Q := h
theorem z_var10 {x0 x1 x2 x3 x4 x5 x6 x7 x8 x9 : Option V} {v : V} {l : L2.St} (h : Q v H) : tVar 10 (x0 :: x1 :: x2 :: x3 :: x4 :: x5 :: x6 :: x7 :: x8 :: x9 :: some v :: l) H Q := ⟨v, rfl, h⟩
theorem z_nm10 {x0 x1 x2 x3 x4 x5 x6 x7 x8 x9 : Option V} {y : Option V} {v : V} {l : L2.St} {Q : L2.St → Hp → Prop} (h : Q (x0 :: x1 :: x2 :: x3 :: x4 :: x5 :: x6 :: x7 :: x8 :: x9 :: some v :: l) H) : gName 10 v (x0 :: x1 :: x2 :: x3 :: x4 :: x5 :: x6 :: x7 :: x8 :: x9 :: y :: l) H Q := h
theorem z_var11 {x0 x1 x2 x3 x4 x5 x6 x7 x8 x9 x10 : Option V} {v : V} {l : L2.St} (h : Q v H) : tVar 11 (x0 :: x1 :: x2 :: x3 :: x4 :: x5 :: x6 :: x7 :: x8 :: x9 :: x10 :: some v :: l) H Q := ⟨v, rfl, h⟩
theorem z_nm11 {x0 x1 x2 x3 x4 x5 x6 x7 x8 x9 x10 : Option V} {y : Option V} {v : V} {l : L2.St} {Q : L2.St → Hp → Prop} (h : Q (x0 :: x1 :: x2 :: x3 :: x4 :: x5 :: x6 :: x7 :: x8 :: x9 :: x10 :: some v :: l) H) : gName 11 v (x0 :: x1 :: x2 :: x3 :: x4 :: x5 :: x6 :: x7 :: x8 :: x9 :: x10 :: y :: l) H Q := h
theorem z_var12 {x0 x1 x2 x3 x4 x5 x6 x7 x8 x9 x10 x11 : Option V} {v : V} {l : L2.St} (h : Q v H) : tVar 12 (x0 :: x1 :: x2 :: x3 :: x4 :: x5 :: x6 :: x7 :: x8 :: x9 :: x10 :: x11 :: some v :: l) H Q := ⟨v, rfl, h⟩
theorem z_nm12 {x0 x1 x2 x3 x4 x5 x6 x7 x8 x9 x10 x11 : Option V} {y : Option V} {v : V} {l : L2.St} {Q : L2.St → Hp → Prop} (h : Q (x0 :: x1 :: x2 :: x3 :: x4 :: x5 :: x6 :: x7 :: x8 :: x9 :: x10 :: x11 :: some v :: l) H) : gName 12 v (x0 :: x1 :: x2 :: x3 :: x4 :: x5 :: x6 :: x7 :: x8 :: x9 :: x10 :: x11 :: y :: l) H Q := h
theorem z_var13 {x0 x1 x2 x3 x4 x5 x6 x7 x8 x9 x10 x11 x12 : Option V} {v : V} {l : L2.St} (h : Q v H) : tVar 13 (x0 :: x1 :: x2 :: x3 :: x4 :: x5 :: x6 :: x7 :: x8 :: x9 :: x10 :: x11 :: x12 :: some v :: l) H Q := ⟨v, rfl, h⟩
theorem z_nm13 {x0 x1 x2 x3 x4 x5 x6 x7 x8 x9 x10 x11 x12 : Option V} {y : Option V} {v : V} {l : L2.St} {Q : L2.St → Hp → Prop} (h : Q (x0 :: x1 :: x2 :: x3 :: x4 :: x5 :: x6 :: x7 :: x8 :: x9 :: x10 :: x11 :: x12 :: some v :: l) H) : gName 13 v (x0 :: x1 :: x2 :: x3 :: x4 :: x5 :: x6 :: x7 :: x8 :: x9 :: x10 :: x11 :: x12 :: y :: l) H Q := h
theorem z_var14 {x0 x1 x2 x3 x4 x5 x6 x7 x8 x9 x10 x11 x12 x13 : Option V} {v : V} {l : L2.St} (h : Q v H) : tVar 14 (x0 :: x1 :: x2 :: x3 :: x4 :: x5 :: x6 :: x7 :: x8 :: x9 :: x10 :: x11 :: x12 :: x13 :: some v :: l) H Q := ⟨v, rfl, h⟩
theorem z_nm14 {x0 x1 x2 x3 x4 x5 x6 x7 x8 x9 x10 x11 x12 x13 : Option V} {y : Option V} {v : V} {l : L2.St} {Q : L2.St → Hp → Prop} (h : Q (x0 :: x1 :: x2 :: x3 :: x4 :: x5 :: x6 :: x7 :: x8 :: x9 :: x10 :: x11 :: x12 :: x13 :: some v :: l) H) : gName 14 v (x0 :: x1 :: x2 :: x3 :: x4 :: x5 :: x6 :: x7 :: x8 :: x9 :: x10 :: x11 :: x12 :: x13 :: y :: l) H Q := h
theorem z_var15 {x0 x1 x2 x3 x4 x5 x6 x7 x8 x9 x10 x11 x12 x13 x14 : Option V} {v : V} {l : L2.St} (h : Q v H) : tVar 15 (x0 :: x1 :: x2 :: x3 :: x4 :: x5 :: x6 :: x7 :: x8 :: x9 :: x10 :: x11 :: x12 :: x13 :: x14 :: some v :: l) H Q := ⟨v, rfl, h⟩
theorem z_nm15 {x0 x1 x2 x3 x4 x5 x6 x7 x8 x9 x10 x11 x12 x13 x14 : Option V} {y : Option V} {v : V} {l : L2.St} {Q : L2.St → Hp → Prop} (h : Q (x0 :: x1 :: x2 :: x3 :: x4 :: x5 :: x6 :: x7 :: x8 :: x9 :: x10 :: x11 :: x12 :: x13 :: x14 :: some v :: l) H) : gName 15 v (x0 :: x1 :: x2 :: x3 :: x4 :: x5 :: x6 :: x7 :: x8 :: x9 :: x10 :: x11 :: x12 :: x13 :: x14 :: y :: l) H Q := h
theorem z_var16 {x0 x1 x2 x3 x4 x5 x6 x7 x8 x9 x10 x11 x12 x13 x14 x15 : Option V} {v : V} {l : L2.St} (h : Q v H) : tVar 16 (x0 :: x1 :: x2 :: x3 :: x4 :: x5 :: x6 :: x7 :: x8 :: x9 :: x10 :: x11 :: x12 :: x13 :: x14 :: x15 :: some v :: l) H Q := ⟨v, rfl, h⟩
theorem z_nm16 {x0 x1 x2 x3 x4 x5 x6 x7 x8 x9 x10 x11 x12 x13 x14 x15 : Option V} {y : Option V} {v : V} {l : L2.St} {Q : L2.St → Hp → Prop} (h : Q (x0 :: x1 :: x2 :: x3 :: x4 :: x5 :: x6 :: x7 :: x8 :: x9 :: x10 :: x11 :: x12 :: x13 :: x14 :: x15 :: some v :: l) H) : gName 16 v (x0 :: x1 :: x2 :: x3 :: x4 :: x5 :: x6 :: x7 :: x8 :: x9 :: x10 :: x11 :: x12 :: x13 :: x14 :: x15 :: y :: l) H Q := h
theorem z_var17 {x0 x1 x2 x3 x4 x5 x6 x7 x8 x9 x10 x11 x12 x13 x14 x15 x16 : Option V} {v : V} {l : L2.St} (h : Q v H) : tVar 17 (x0 :: x1 :: x2 :: x3 :: x4 :: x5 :: x6 :: x7 :: x8 :: x9 :: x10 :: x11 :: x12 :: x13 :: x14 :: x15 :: x16 :: some v :: l) H Q := ⟨v, rfl, h⟩
theorem z_nm17 {x0 x1 x2 x3 x4 x5 x6 x7 x8 x9 x10 x11 x12 x13 x14 x15 x16 : Option V} {y : Option V} {v : V} {l : L2.St} {Q : L2.St → Hp → Prop} (h : Q (x0 :: x1 :: x2 :: x3 :: x4 :: x5 :: x6 :: x7 :: x8 :: x9 :: x10 :: x11 :: x12 :: x13 :: x14 :: x15 :: x16 :: some v :: l) H) : gName 17 v (x0 :: x1 :: x2 :: x3 :: x4 :: x5 :: x6 :: x7 :: x8 :: x9 :: x10 :: x11 :: x12 :: x13 :: x14 :: x15 :: x16 :: y :: l) H Q := h
theorem z_var18 {x0 x1 x2 x3 x4 x5 x6 x7 x8 x9 x10 x11 x12 x13 x14 x15 x16 x17 : Option V} {v : V} {l : L2.St} (h : Q v H) : tVar 18 (x0 :: x1 :: x2 :: x3 :: x4 :: x5 :: x6 :: x7 :: x8 :: x9 :: x10 :: x11 :: x12 :: x13 :: x14 :: x15 :: x16 :: x17 :: some v :: l) H Q := ⟨v, rfl, h⟩
theorem z_nm18 {x0 x1 x2 x3 x4 x5 x6 x7 x8 x9 x10 x11 x12 x13 x14 x15 x16 x17 : Option V} {y : Option V} {v : V} {l : L2.St} {Q : L2.St → Hp → Prop} (h : Q (x0 :: x1 :: x2 :: x3 :: x4 :: x5 :: x6 :: x7 :: x8 :: x9 :: x10 :: x11 :: x12 :: x13 :: x14 :: x15 :: x16 :: x17 :: some v :: l) H) : gName 18 v (x0 :: x1 :: x2 :: x3 :: x4 :: x5 :: x6 :: x7 :: x8 :: x9 :: x10 :: x11 :: x12 :: x13 :: x14 :: x15 :: x16 :: x17 :: y :: l) H Q := h
theorem z_var19 {x0 x1 x2 x3 x4 x5 x6 x7 x8 x9 x10 x11 x12 x13 x14 x15 x16 x17 x18 : Option V} {v : V} {l : L2.St} (h : Q v H) : tVar 19 (x0 :: x1 :: x2 :: x3 :: x4 :: x5 :: x6 :: x7 :: x8 :: x9 :: x10 :: x11 :: x12 :: x13 :: x14 :: x15 :: x16 :: x17 :: x18 :: some v :: l) H Q := ⟨v, rfl, h⟩
theorem z_nm19 {x0 x1 x2 x3 x4 x5 x6 x7 x8 x9 x10 x11 x12 x13 x14 x15 x16 x17 x18 : Option V} {y : Option V} {v : V} {l : L2.St} {Q : L2.St → Hp → Prop} (h : Q (x0 :: x1 :: x2 :: x3 :: x4 :: x5 :: x6 :: x7 :: x8 :: x9 :: x10 :: x11 :: x12 :: x13 :: x14 :: x15 :: x16 :: x17 :: x18 :: some v :: l) H) : gName 19 v (x0 :: x1 :: x2 :: x3 :: x4 :: x5 :: x6 :: x7 :: x8 :: x9 :: x10 :: x11 :: x12 :: x13 :: x14 :: x15 :: x16 :: x17 :: x18 :: y :: l) H Q := h
theorem z_var20 {x0 x1 x2 x3 x4 x5 x6 x7 x8 x9 x10 x11 x12 x13 x14 x15 x16 x17 x18 x19 : Option V} {v : V} {l : L2.St} (h : Q v H) : tVar 20 (x0 :: x1 :: x2 :: x3 :: x4 :: x5 :: x6 :: x7 :: x8 :: x9 :: x10 :: x11 :: x12 :: x13 :: x14 :: x15 :: x16 :: x17 :: x18 :: x19 :: some v :: l) H Q := ⟨v, rfl, h⟩
theorem z_nm20 {x0 x1 x2 x3 x4 x5 x6 x7 x8 x9 x10 x11 x12 x13 x14 x15 x16 x17 x18 x19 : Option V} {y : Option V} {v : V} {l : L2.St} {Q : L2.St → Hp → Prop} (h : Q (x0 :: x1 :: x2 :: x3 :: x4 :: x5 :: x6 :: x7 :: x8 :: x9 :: x10 :: x11 :: x12 :: x13 :: x14 :: x15 :: x16 :: x17 :: x18 :: x19 :: some v :: l) H) : gName 20 v (x0 :: x1 :: x2 :: x3 :: x4 :: x5 :: x6 :: x7 :: x8 :: x9 :: x10 :: x11 :: x12 :: x13 :: x14 :: x15 :: x16 :: x17 :: x18 :: x19 :: y :: l) H Q := h
theorem z_var21 {x0 x1 x2 x3 x4 x5 x6 x7 x8 x9 x10 x11 x12 x13 x14 x15 x16 x17 x18 x19 x20 : Option V} {v : V} {l : L2.St} (h : Q v H) : tVar 21 (x0 :: x1 :: x2 :: x3 :: x4 :: x5 :: x6 :: x7 :: x8 :: x9 :: x10 :: x11 :: x12 :: x13 :: x14 :: x15 :: x16 :: x17 :: x18 :: x19 :: x20 :: some v :: l) H Q := ⟨v, rfl, h⟩
theorem z_nm21 {x0 x1 x2 x3 x4 x5 x6 x7 x8 x9 x10 x11 x12 x13 x14 x15 x16 x17 x18 x19 x20 : Option V} {y : Option V} {v : V} {l : L2.St} {Q : L2.St → Hp → Prop} (h : Q (x0 :: x1 :: x2 :: x3 :: x4 :: x5 :: x6 :: x7 :: x8 :: x9 :: x10 :: x11 :: x12 :: x13 :: x14 :: x15 :: x16 :: x17 :: x18 :: x19 :: x20 :: some v :: l) H) : gName 21 v (x0 :: x1 :: x2 :: x3 :: x4 :: x5 :: x6 :: x7 :: x8 :: x9 :: x10 :: x11 :: x12 :: x13 :: x14 :: x15 :: x16 :: x17 :: x18 :: x19 :: x20 :: y :: l) H Q := h
theorem z_var22 {x0 x1 x2 x3 x4 x5 x6 x7 x8 x9 x10 x11 x12 x13 x14 x15 x16 x17 x18 x19 x20 x21 : Option V} {v : V} {l : L2.St} (h : Q v H) : tVar 22 (x0 :: x1 :: x2 :: x3 :: x4 :: x5 :: x6 :: x7 :: x8 :: x9 :: x10 :: x11 :: x12 :: x13 :: x14 :: x15 :: x16 :: x17 :: x18 :: x19 :: x20 :: x21 :: some v :: l) H Q := ⟨v, rfl, h⟩
theorem z_nm22 {x0 x1 x2 x3 x4 x5 x6 x7 x8 x9 x10 x11 x12 x13 x14 x15 x16 x17 x18 x19 x20 x21 : Option V} {y : Option V} {v : V} {l : L2.St} {Q : L2.St → Hp → Prop} (h : Q (x0 :: x1 :: x2 :: x3 :: x4 :: x5 :: x6 :: x7 :: x8 :: x9 :: x10 :: x11 :: x12 :: x13 :: x14 :: x15 :: x16 :: x17 :: x18 :: x19 :: x20 :: x21 :: some v :: l) H) : gName 22 v (x0 :: x1 :: x2 :: x3 :: x4 :: x5 :: x6 :: x7 :: x8 :: x9 :: x10 :: x11 :: x12 :: x13 :: x14 :: x15 :: x16 :: x17 :: x18 :: x19 :: x20 :: x21 :: y :: l) H Q := h
theorem z_var23 {x0 x1 x2 x3 x4 x5 x6 x7 x8 x9 x10 x11 x12 x13 x14 x15 x16 x17 x18 x19 x20 x21 x22 : Option V} {v : V} {l : L2.St} (h : Q v H) : tVar 23 (x0 :: x1 :: x2 :: x3 :: x4 :: x5 :: x6 :: x7 :: x8 :: x9 :: x10 :: x11 :: x12 :: x13 :: x14 :: x15 :: x16 :: x17 :: x18 :: x19 :: x20 :: x21 :: x22 :: some v :: l) H Q := ⟨v, rfl, h⟩
theorem z_nm23 {x0 x1 x2 x3 x4 x5 x6 x7 x8 x9 x10 x11 x12 x13 x14 x15 x16 x17 x18 x19 x20 x21 x22 : Option V} {y : Option V} {v : V} {l : L2.St} {Q : L2.St → Hp → Prop} (h : Q (x0 :: x1 :: x2 :: x3 :: x4 :: x5 :: x6 :: x7 :: x8 :: x9 :: x10 :: x11 :: x12 :: x13 :: x14 :: x15 :: x16 :: x17 :: x18 :: x19 :: x20 :: x21 :: x22 :: some v :: l) H) : gName 23 v (x0 :: x1 :: x2 :: x3 :: x4 :: x5 :: x6 :: x7 :: x8 :: x9 :: x10 :: x11 :: x12 :: x13 :: x14 :: x15 :: x16 :: x17 :: x18 :: x19 :: x20 :: x21 :: x22 :: y :: l) H Q := h
/-! the same as instances: the step is found by its head -/
class Stp (goal : Prop) (sub : outParam Prop) : Prop where
  h : sub → goal
instance i_z_seq {t u : TS} : Stp (tSeq t u D σ H) (t { D with nx := u D } σ H) := ⟨z_seq⟩
instance i_z_next : Stp (tNext D σ H) (D.nx σ H) := ⟨z_next⟩
instance i_z_brk : Stp (tBreak D σ H) (D.bk σ H) := ⟨z_brk⟩
instance i_z_cont : Stp (tCont D σ H) (D.ct σ H) := ⟨z_cont⟩
instance i_z_asg {te : TE} {g : TG} : Stp (tAsg te g D σ H) (te σ H fun x H1 => g x σ H1 D.nx) := ⟨z_asg⟩
instance i_z_drop {te : TE} : Stp (tDrop te D σ H) (te σ H fun _ H1 => D.nx σ H1) := ⟨z_drop⟩
instance i_z_ret {te : TE} : Stp (tRet te D σ H) (te σ H D.rt) := ⟨z_ret⟩
instance i_z_retN : Stp (tRetN D σ H) (D.rt .non H) := ⟨z_retN⟩
instance i_z_ifs {c : TT} {t u : TS} : Stp (tIfS c t u D σ H) (c σ H fun b H1 => if b = true then t D σ H1 else u D σ H1) := ⟨z_ifs⟩
instance i_z_cut {t u : TS} : Stp (Evl.tCut t u D σ H) (∃ Mid : L2.St → Hp → Prop, t { D with nx := Mid } σ H ∧ ∀ σ' H', Mid σ' H' → u D σ' H') := ⟨z_cut⟩
instance i_z_flds {ta tv : TE} {f : Str} : Stp (sFld K ta tv f D σ H) (tv σ H fun y H1 => ta σ H1 fun x H2 => oFldS K f x y (D.nx σ) H2) := ⟨z_flds⟩
instance i_z_dput {td ty tv : TE} : Stp (sDPut td ty tv D σ H) (tv σ H fun v H1 => td σ H1 fun x H2 => ty σ H2 fun y H3 => oDPut x y v (D.nx σ) H3) := ⟨z_dput⟩
instance i_z_gcons {t : TG} {u : TGs} {v : V} {r : List V} {Q : L2.St → Hp → Prop} : Stp (gCons t u (v :: r) σ H Q) (t v σ H fun σ' H' => u r σ' H' Q) := ⟨z_gcons⟩
instance i_z_gnil {Q : L2.St → Hp → Prop} : Stp (gNil [] σ H Q) (Q σ H) := ⟨z_gnil⟩
instance i_z_gsub {to ti : TE} {t : TSet} {v : V} {Q : L2.St → Hp → Prop} : Stp (gSub to ti t v σ H Q) (to σ H fun o H1 => ti σ H1 fun i H2 => t o i v H2 fun H3 => Q σ H3) := ⟨z_gsub⟩
instance i_z_c {v : V} : Stp (tC v σ H Q) (Q v H) := ⟨z_c⟩
instance i_z_op {r : R2} {ta tb : TE} : Stp (tOp r ta tb σ H Q) (ta σ H fun x H1 => tb σ H1 fun y H2 => r x y H2 Q) := ⟨z_op⟩
instance i_z_un {r : V → Hp → VK → Prop} {ta : TE} : Stp (tUn r ta σ H Q) (ta σ H fun x H1 => r x H1 Q) := ⟨z_un⟩
instance i_z_tup {t : TA} : Stp (tTup t σ H Q) (t σ H fun xs H1 => oNew (.tup xs) xs.length H1 Q) := ⟨z_tup⟩
instance i_z_lst {t : TA} : Stp (tLst t σ H Q) (t σ H fun xs H1 => oNew (.lst xs) xs.length H1 Q) := ⟨z_lst⟩
instance i_z_dnew : Stp (tDNewK σ H Q) (∀ p H1, H p = none → Fr [] H H1 → H1 p = some (.dK []) → Q (.ref p) H1) := ⟨z_dnew⟩
instance i_z_nil {Q : List V → Hp → Prop} : Stp (tNil σ H Q) (Q [] H) := ⟨z_nil⟩
instance i_z_cons {ta : TE} {tr : TA} {Q : List V → Hp → Prop} : Stp (tCons ta tr σ H Q) (ta σ H fun x H1 => tr σ H1 fun xs H2 => Q (x :: xs) H2) := ⟨z_cons⟩
instance i_z_cb {r : List V → Hp → VK → Prop} {t : TA} : Stp (tCB r t σ H Q) (t σ H fun vs H1 => r vs H1 Q) := ⟨z_cb⟩
instance i_z_call {sp : Sp} {dvs : List V} {E : XK} {t : TA} : Stp (tCall sp dvs E t σ H Q) (t σ H fun vs H1 => sp (vs ++ dvs) H1 Q E) := ⟨z_call⟩
instance i_z_meth {C : Addr} {m : Str} {sp : Sp} {dvs : List V} {E : XK} {ta : TE} {t : TA} : Stp (tMeth C m sp dvs E ta t σ H Q) (ta σ H fun x H1 => oMeth C m x (fun H1 => t σ H1 fun vs H2 => sp (x :: (vs ++ dvs)) H2 Q E) H1) := ⟨z_meth⟩
instance i_z_make {C : Addr} {sp : Sp} {dvs : List V} {E : XK} {t : TA} : Stp (tMake C sp dvs E t σ H Q) (t σ H fun vs H1 => ∀ x dx, H1 x = none → H1 dx = none → dx ≠ x → sp (.ref x :: (vs ++ dvs)) (upd (upd H1 dx (.own x)) x (.ins C dx [])) (fun v H2 => v = .non ∧ Q (.ref x) H2) E) := ⟨z_make⟩
instance i_z_fld {ta : TE} {f : Str} : Stp (tFld K ta f σ H Q) (ta σ H fun x H1 => oFld K f x H1 Q) := ⟨z_fld⟩
instance i_z_test {t : TE} {Q : Bool → Hp → Prop} : Stp (tTest t σ H Q) (t σ H fun x H' => oBl x H' Q) := ⟨z_test⟩
instance i_z_tB {t : TE} {Q : Bool → Hp → Prop} : Stp (tB t σ H Q) (t σ H fun x H' => oBl x H' Q) := ⟨z_tB⟩
instance i_z_bl {k : Bool} {Q : Bool → Hp → Prop} : Stp (oBl (.bl k) H Q) (Q k H) := ⟨z_bl⟩
instance i_z_truK {ta : TE} {Q : Bool → Hp → Prop} : Stp (tTruK K ta σ H Q) (ta σ H fun x H' => oTru K x H' Q) := ⟨z_truK⟩
instance i_z_truI {k : Bool → Prop} {x : V} : Stp (∃ b, TruV K x H b ∧ k b) (oTru K x H (fun b _ => k b)) := ⟨z_truI⟩
instance i_z_notT {ta : TE} : Stp (tNotT K ta σ H Q) (ta σ H fun x H' => oTru K x H' fun k H' => Q (.bl (!k)) H') := ⟨z_notT⟩
instance i_z_truB {k : Bool} {Q : Bool → Hp → Prop} : Stp (oTru K (.bl k) H Q) (Q k H) := ⟨z_truB⟩
instance i_z_truN {Q : Bool → Hp → Prop} : Stp (oTru K .non H Q) (Q false H) := ⟨z_truN⟩
instance i_z_truZ {i : Int} {Q : Bool → Hp → Prop} : Stp (oTru K (.int i) H Q) (Q (i != 0) H) := ⟨z_truZ⟩
instance i_z_tand {t u : TT} {Q : Bool → Hp → Prop} : Stp (tAnd t u σ H Q) (t σ H fun c H1 => if c = true then u σ H1 Q else Q false H1) := ⟨z_tand⟩
instance i_z_tor {t u : TT} {Q : Bool → Hp → Prop} : Stp (tOr t u σ H Q) (t σ H fun c H1 => if c = true then Q true H1 else u σ H1 Q) := ⟨z_tor⟩
instance i_z_tnot {t : TT} {Q : Bool → Hp → Prop} : Stp (tNot t σ H Q) (t σ H fun c H1 => Q (!c) H1) := ⟨z_tnot⟩
instance i_z_yes {Q : Bool → Hp → Prop} : Stp (tYes σ H Q) (Q true H) := ⟨z_yes⟩
instance i_z_andV {ta tb : TE} : Stp (tAndV ta tb σ H Q) (ta σ H fun x H1 => oBl x H1 fun c H1 => if c = true then tb σ H1 Q else Q (.bl false) H1) := ⟨z_andV⟩
instance i_z_orV {ta tb : TE} : Stp (tOrV ta tb σ H Q) (ta σ H fun x H1 => oBl x H1 fun c H1 => if c = true then Q (.bl true) H1 else tb σ H1 Q) := ⟨z_orV⟩
instance i_z_tIf {t : TT} {ta tb : TE} : Stp (tIf t ta tb σ H Q) (t σ H fun c H1 => if c = true then ta σ H1 Q else tb σ H1 Q) := ⟨z_tIf⟩
instance i_z_addI {i j : Int} : Stp (rAddU K (.int i) (.int j) H Q) (Q (.int (i + j)) H) := ⟨z_addI⟩
instance i_z_rI0 {g : Int → Int → V} {i j : Int} : Stp (rI0 g (.int i) (.int j) H Q) (Q (g i j) H) := ⟨z_rI0⟩
instance i_z_rU {g : Int → V} {i : Int} : Stp (rU g (.int i) H Q) (Q (g i) H) := ⟨z_rU⟩
instance i_z_ordI {f : Int → Int → Bool} {g : List Nat → List Nat → Bool} {i j : Int} : Stp (rOrd f g (.int i) (.int j) H Q) (Q (.bl (f i j)) H) := ⟨z_ordI⟩
instance i_z_ordS {f : Int → Int → Bool} {g : List Nat → List Nat → Bool} {i j : Str} : Stp (rOrd f g (.str i) (.str j) H Q) (Q (.bl (g i.cps.toList j.cps.toList)) H) := ⟨z_ordS⟩
instance i_z_eqI {i j : Int} : Stp (rEqU K id (.int i) (.int j) H Q) (Q (.bl (decide (i = j))) H) := ⟨z_eqI⟩
instance i_z_neI {i j : Int} : Stp (rEqU K (!·) (.int i) (.int j) H Q) (Q (.bl (!decide (i = j))) H) := ⟨z_neI⟩
instance i_z_eqS {i j : Str} : Stp (rEqU K id (.str i) (.str j) H Q) (Q (.bl (decide (i = j))) H) := ⟨z_eqS⟩
instance i_z_neS {i j : Str} : Stp (rEqU K (!·) (.str i) (.str j) H Q) (Q (.bl (!decide (i = j))) H) := ⟨z_neS⟩
instance i_z_isNP {x : V} : Stp (rIsU id x .non H Q) (Q (.bl ((decide (x = .non)))) H) := ⟨z_isNP⟩
instance i_z_isNQ {x : V} : Stp (rIsU (!·) x .non H Q) (Q (.bl (!(decide (x = .non)))) H) := ⟨z_isNQ⟩
instance i_z_isNiP {i : Int} : Stp (rIsU id (.int i) .non H Q) (Q (.bl false) H) := ⟨z_isNiP⟩
instance i_z_isNiN {i : Int} : Stp (rIsU (!·) (.int i) .non H Q) (Q (.bl true) H) := ⟨z_isNiN⟩
instance i_z_isNsP {i : Str} : Stp (rIsU id (.str i) .non H Q) (Q (.bl false) H) := ⟨z_isNsP⟩
instance i_z_isNsN {i : Str} : Stp (rIsU (!·) (.str i) .non H Q) (Q (.bl true) H) := ⟨z_isNsN⟩
instance i_z_isNrP {a : Addr} : Stp (rIsU id (.ref a) .non H Q) (Q (.bl false) H) := ⟨z_isNrP⟩
instance i_z_isNrN {a : Addr} : Stp (rIsU (!·) (.ref a) .non H Q) (Q (.bl true) H) := ⟨z_isNrN⟩
instance i_z_isNbP {b : Bool} : Stp (rIsU id (.bl b) .non H Q) (Q (.bl false) H) := ⟨z_isNbP⟩
instance i_z_isNbN {b : Bool} : Stp (rIsU (!·) (.bl b) .non H Q) (Q (.bl true) H) := ⟨z_isNbN⟩
instance i_z_isNnP : Stp (rIsU id .non .non H Q) (Q (.bl true) H) := ⟨z_isNnP⟩
instance i_z_isNnN : Stp (rIsU (!·) .non .non H Q) (Q (.bl false) H) := ⟨z_isNnN⟩
instance i_z_isBP {x : V} {b : Bool} : Stp (rIsU id x (.bl b) H Q) (Q (.bl ((decide (x = .bl b)))) H) := ⟨z_isBP⟩
instance i_z_isBQ {x : V} {b : Bool} : Stp (rIsU (!·) x (.bl b) H Q) (Q (.bl (!(decide (x = .bl b)))) H) := ⟨z_isBQ⟩
instance i_z_sl {r : V → Option Int → Option Int → Hp → VK → Prop} {te : TE} {tl th : TO} : Stp (tSl r te tl th σ H Q) (te σ H fun x H1 => tl σ H1 fun l H2 => th σ H2 fun u H3 => r x l u H3 Q) := ⟨z_sl⟩
instance i_z_nopart {Q : Option Int → Hp → Prop} : Stp (tNoPart σ H Q) (Q none H) := ⟨z_nopart⟩
instance i_z_part {t : TE} {Q : Option Int → Hp → Prop} : Stp (tPart t σ H Q) (t σ H fun x H1 => oPart x H1 Q) := ⟨z_part⟩
instance i_z_part1 {i : Int} {Q : Option Int → Hp → Prop} : Stp (oPart (.int i) H Q) (Q (some i) H) := ⟨z_part1⟩
instance i_z_intI {i : Int} : Stp (rIntU [.int i] H Q) (Q (.int i) H) := ⟨z_intI⟩
instance i_z_intB {k : Bool} : Stp (rIntU [.bl k] H Q) (Q (.int (if k then 1 else 0)) H) := ⟨z_intB⟩
instance i_z_isi_int_int {i : Int} : Stp (rIsi K [.int i, .ty "int"] H Q) (Q (.bl true) H) := ⟨z_isi_int_int⟩
instance i_z_isi_int_bool {i : Int} : Stp (rIsi K [.int i, .ty "bool"] H Q) (Q (.bl false) H) := ⟨z_isi_int_bool⟩
instance i_z_isi_int_str {i : Int} : Stp (rIsi K [.int i, .ty "str"] H Q) (Q (.bl false) H) := ⟨z_isi_int_str⟩
instance i_z_isi_int_list {i : Int} : Stp (rIsi K [.int i, .ty "list"] H Q) (Q (.bl false) H) := ⟨z_isi_int_list⟩
instance i_z_isi_int_tuple {i : Int} : Stp (rIsi K [.int i, .ty "tuple"] H Q) (Q (.bl false) H) := ⟨z_isi_int_tuple⟩
instance i_z_isi_int_dict {i : Int} : Stp (rIsi K [.int i, .ty "dict"] H Q) (Q (.bl false) H) := ⟨z_isi_int_dict⟩
instance i_z_isi_str_int {i : Str} : Stp (rIsi K [.str i, .ty "int"] H Q) (Q (.bl false) H) := ⟨z_isi_str_int⟩
instance i_z_isi_str_bool {i : Str} : Stp (rIsi K [.str i, .ty "bool"] H Q) (Q (.bl false) H) := ⟨z_isi_str_bool⟩
instance i_z_isi_str_str {i : Str} : Stp (rIsi K [.str i, .ty "str"] H Q) (Q (.bl true) H) := ⟨z_isi_str_str⟩
instance i_z_isi_str_list {i : Str} : Stp (rIsi K [.str i, .ty "list"] H Q) (Q (.bl false) H) := ⟨z_isi_str_list⟩
instance i_z_isi_str_tuple {i : Str} : Stp (rIsi K [.str i, .ty "tuple"] H Q) (Q (.bl false) H) := ⟨z_isi_str_tuple⟩
instance i_z_isi_str_dict {i : Str} : Stp (rIsi K [.str i, .ty "dict"] H Q) (Q (.bl false) H) := ⟨z_isi_str_dict⟩
instance i_z_isi_bool_int {i : Bool} : Stp (rIsi K [.bl i, .ty "int"] H Q) (Q (.bl true) H) := ⟨z_isi_bool_int⟩
instance i_z_isi_bool_bool {i : Bool} : Stp (rIsi K [.bl i, .ty "bool"] H Q) (Q (.bl true) H) := ⟨z_isi_bool_bool⟩
instance i_z_isi_bool_str {i : Bool} : Stp (rIsi K [.bl i, .ty "str"] H Q) (Q (.bl false) H) := ⟨z_isi_bool_str⟩
instance i_z_isi_bool_list {i : Bool} : Stp (rIsi K [.bl i, .ty "list"] H Q) (Q (.bl false) H) := ⟨z_isi_bool_list⟩
instance i_z_isi_bool_tuple {i : Bool} : Stp (rIsi K [.bl i, .ty "tuple"] H Q) (Q (.bl false) H) := ⟨z_isi_bool_tuple⟩
instance i_z_isi_bool_dict {i : Bool} : Stp (rIsi K [.bl i, .ty "dict"] H Q) (Q (.bl false) H) := ⟨z_isi_bool_dict⟩
instance i_z_bm0 {T : String} {r : V → List V → Hp → VK → Prop} {to : TE} : Stp (tBM0 K T r to σ H Q) (to σ H fun x H1 => oBM K T x (fun H1 => r x [] H1 Q) H1) := ⟨z_bm0⟩
instance i_z_bm {T : String} {r : V → List V → Hp → VK → Prop} {to : TE} {t : TA} : Stp (tBM K T r to t σ H Q) (to σ H fun x H1 => oBM K T x (fun H1 => t σ H1 fun xs H2 => r x xs H2 Q) H1) := ⟨z_bm⟩
instance i_z_bmS {z : Str} {R : Hp → Prop} : Stp (oBM K "str" (.str z) R H) (R H) := ⟨z_bmS⟩
instance i_z_for {wi : TI} {g : TG} {tb : TS} : Stp (tFor wi g tb D σ H) (wi σ H fun J H1 => ∃ W : Nat → Nat → L2.St → Hp → Prop, (∃ m, W 0 m σ H1) ∧ ∀ i m σ H, W i m σ H → (J.stop i H ∧ D.nx σ H) ∨ (J.go i H ∧ ∃ N : L2.St → Hp → Prop, (∀ σ' H', N σ' H' → ∃ m', m' < m ∧ W (i + 1) m' σ' H') ∧ ∀ x H', J.yld i H x H' → g x σ H' fun σ2 H2 => tb { D with nx := N, ct := N, bk := D.nx } σ2 H2)) := ⟨z_for⟩
instance i_z_iList {tl : TE} {R : It → Hp → Prop} : Stp (iList K tl σ H R) (tl σ H fun x H1 => oIter K x H1 R) := ⟨z_iList⟩
instance i_z_iRng1 {ta : TA} {R : It → Hp → Prop} : Stp (iRng1 ta σ H R) (ta σ H fun vs H1 => oRng1 vs H1 R) := ⟨z_iRng1⟩
instance i_z_iRng2 {ta : TA} {R : It → Hp → Prop} : Stp (iRng2 ta σ H R) (ta σ H fun vs H1 => oRng2 vs H1 R) := ⟨z_iRng2⟩
instance i_z_lc {wi : TI} {g : TG} {tt : TT} {te : TE} {vs : List Nat} : Stp (tLc wi g tt te vs σ H Q) (wi σ H fun J H1 => oLc J g tt te vs σ H1 Q) := ⟨z_lc⟩
instance i_z_iteTT {A B : Prop} : Stp (if true = true then A else B) (A) := ⟨z_iteTT⟩
instance i_z_iteFF {A B : Prop} : Stp (if false = true then A else B) (B) := ⟨z_iteFF⟩
instance i_z_iteNT {A B : Prop} : Stp (if (!true) = true then A else B) (B) := ⟨z_iteNT⟩
instance i_z_iteNF {A B : Prop} : Stp (if (!false) = true then A else B) (A) := ⟨z_iteNF⟩
instance i_z_iteS1 {α : Type} {v : α} {A B : Prop} : Stp (if (some v).isSome = true then A else B) (A) := ⟨z_iteS1⟩
instance i_z_iteS2 {α : Type} {v : α} {A B : Prop} : Stp (if (!(some v).isSome) = true then A else B) (B) := ⟨z_iteS2⟩
instance i_z_iteS3 {α : Type} {A B : Prop} : Stp (if (none : Option α).isSome = true then A else B) (B) := ⟨z_iteS3⟩
instance i_z_iteS4 {α : Type} {A B : Prop} : Stp (if (!(none : Option α).isSome) = true then A else B) (A) := ⟨z_iteS4⟩
instance i_z_lockAsg {te : TE} {i : Nat} : Stp (tLock (tAsg te (gName i)) D σ H) (tLockE te σ H fun x H1 => gName i x σ H1 D.nx) := ⟨z_lockAsg⟩
instance i_z_var0 {v : V} {l : L2.St} : Stp (tVar 0 (some v :: l) H Q) (Q v H) := ⟨z_var0⟩
instance i_z_nm0 {y : Option V} {v : V} {l : L2.St} {Q : L2.St → Hp → Prop} : Stp (gName 0 v (y :: l) H Q) (Q (some v :: l) H) := ⟨z_nm0⟩
instance i_z_var1 {x0 : Option V} {v : V} {l : L2.St} : Stp (tVar 1 (x0 :: some v :: l) H Q) (Q v H) := ⟨z_var1⟩
instance i_z_nm1 {x0 : Option V} {y : Option V} {v : V} {l : L2.St} {Q : L2.St → Hp → Prop} : Stp (gName 1 v (x0 :: y :: l) H Q) (Q (x0 :: some v :: l) H) := ⟨z_nm1⟩
instance i_z_var2 {x0 x1 : Option V} {v : V} {l : L2.St} : Stp (tVar 2 (x0 :: x1 :: some v :: l) H Q) (Q v H) := ⟨z_var2⟩
instance i_z_nm2 {x0 x1 : Option V} {y : Option V} {v : V} {l : L2.St} {Q : L2.St → Hp → Prop} : Stp (gName 2 v (x0 :: x1 :: y :: l) H Q) (Q (x0 :: x1 :: some v :: l) H) := ⟨z_nm2⟩
instance i_z_var3 {x0 x1 x2 : Option V} {v : V} {l : L2.St} : Stp (tVar 3 (x0 :: x1 :: x2 :: some v :: l) H Q) (Q v H) := ⟨z_var3⟩
instance i_z_nm3 {x0 x1 x2 : Option V} {y : Option V} {v : V} {l : L2.St} {Q : L2.St → Hp → Prop} : Stp (gName 3 v (x0 :: x1 :: x2 :: y :: l) H Q) (Q (x0 :: x1 :: x2 :: some v :: l) H) := ⟨z_nm3⟩
instance i_z_var4 {x0 x1 x2 x3 : Option V} {v : V} {l : L2.St} : Stp (tVar 4 (x0 :: x1 :: x2 :: x3 :: some v :: l) H Q) (Q v H) := ⟨z_var4⟩
instance i_z_nm4 {x0 x1 x2 x3 : Option V} {y : Option V} {v : V} {l : L2.St} {Q : L2.St → Hp → Prop} : Stp (gName 4 v (x0 :: x1 :: x2 :: x3 :: y :: l) H Q) (Q (x0 :: x1 :: x2 :: x3 :: some v :: l) H) := ⟨z_nm4⟩
instance i_z_var5 {x0 x1 x2 x3 x4 : Option V} {v : V} {l : L2.St} : Stp (tVar 5 (x0 :: x1 :: x2 :: x3 :: x4 :: some v :: l) H Q) (Q v H) := ⟨z_var5⟩
instance i_z_nm5 {x0 x1 x2 x3 x4 : Option V} {y : Option V} {v : V} {l : L2.St} {Q : L2.St → Hp → Prop} : Stp (gName 5 v (x0 :: x1 :: x2 :: x3 :: x4 :: y :: l) H Q) (Q (x0 :: x1 :: x2 :: x3 :: x4 :: some v :: l) H) := ⟨z_nm5⟩
instance i_z_var6 {x0 x1 x2 x3 x4 x5 : Option V} {v : V} {l : L2.St} : Stp (tVar 6 (x0 :: x1 :: x2 :: x3 :: x4 :: x5 :: some v :: l) H Q) (Q v H) := ⟨z_var6⟩
instance i_z_nm6 {x0 x1 x2 x3 x4 x5 : Option V} {y : Option V} {v : V} {l : L2.St} {Q : L2.St → Hp → Prop} : Stp (gName 6 v (x0 :: x1 :: x2 :: x3 :: x4 :: x5 :: y :: l) H Q) (Q (x0 :: x1 :: x2 :: x3 :: x4 :: x5 :: some v :: l) H) := ⟨z_nm6⟩
instance i_z_var7 {x0 x1 x2 x3 x4 x5 x6 : Option V} {v : V} {l : L2.St} : Stp (tVar 7 (x0 :: x1 :: x2 :: x3 :: x4 :: x5 :: x6 :: some v :: l) H Q) (Q v H) := ⟨z_var7⟩
instance i_z_nm7 {x0 x1 x2 x3 x4 x5 x6 : Option V} {y : Option V} {v : V} {l : L2.St} {Q : L2.St → Hp → Prop} : Stp (gName 7 v (x0 :: x1 :: x2 :: x3 :: x4 :: x5 :: x6 :: y :: l) H Q) (Q (x0 :: x1 :: x2 :: x3 :: x4 :: x5 :: x6 :: some v :: l) H) := ⟨z_nm7⟩
instance i_z_var8 {x0 x1 x2 x3 x4 x5 x6 x7 : Option V} {v : V} {l : L2.St} : Stp (tVar 8 (x0 :: x1 :: x2 :: x3 :: x4 :: x5 :: x6 :: x7 :: some v :: l) H Q) (Q v H) := ⟨z_var8⟩
instance i_z_nm8 {x0 x1 x2 x3 x4 x5 x6 x7 : Option V} {y : Option V} {v : V} {l : L2.St} {Q : L2.St → Hp → Prop} : Stp (gName 8 v (x0 :: x1 :: x2 :: x3 :: x4 :: x5 :: x6 :: x7 :: y :: l) H Q) (Q (x0 :: x1 :: x2 :: x3 :: x4 :: x5 :: x6 :: x7 :: some v :: l) H) := ⟨z_nm8⟩
instance i_z_var9 {x0 x1 x2 x3 x4 x5 x6 x7 x8 : Option V} {v : V} {l : L2.St} : Stp (tVar 9 (x0 :: x1 :: x2 :: x3 :: x4 :: x5 :: x6 :: x7 :: x8 :: some v :: l) H Q) (Q v H) := ⟨z_var9⟩
instance i_z_nm9 {x0 x1 x2 x3 x4 x5 x6 x7 x8 : Option V} {y : Option V} {v : V} {l : L2.St} {Q : L2.St → Hp → Prop} : Stp (gName 9 v (x0 :: x1 :: x2 :: x3 :: x4 :: x5 :: x6 :: x7 :: x8 :: y :: l) H Q) (Q (x0 :: x1 :: x2 :: x3 :: x4 :: x5 :: x6 :: x7 :: x8 :: some v :: l) H) := ⟨z_nm9⟩
instance i_z_var10 {x0 x1 x2 x3 x4 x5 x6 x7 x8 x9 : Option V} {v : V} {l : L2.St} : Stp (tVar 10 (x0 :: x1 :: x2 :: x3 :: x4 :: x5 :: x6 :: x7 :: x8 :: x9 :: some v :: l) H Q) (Q v H) := ⟨z_var10⟩
instance i_z_nm10 {x0 x1 x2 x3 x4 x5 x6 x7 x8 x9 : Option V} {y : Option V} {v : V} {l : L2.St} {Q : L2.St → Hp → Prop} : Stp (gName 10 v (x0 :: x1 :: x2 :: x3 :: x4 :: x5 :: x6 :: x7 :: x8 :: x9 :: y :: l) H Q) (Q (x0 :: x1 :: x2 :: x3 :: x4 :: x5 :: x6 :: x7 :: x8 :: x9 :: some v :: l) H) := ⟨z_nm10⟩
instance i_z_var11 {x0 x1 x2 x3 x4 x5 x6 x7 x8 x9 x10 : Option V} {v : V} {l : L2.St} : Stp (tVar 11 (x0 :: x1 :: x2 :: x3 :: x4 :: x5 :: x6 :: x7 :: x8 :: x9 :: x10 :: some v :: l) H Q) (Q v H) := ⟨z_var11⟩
instance i_z_nm11 {x0 x1 x2 x3 x4 x5 x6 x7 x8 x9 x10 : Option V} {y : Option V} {v : V} {l : L2.St} {Q : L2.St → Hp → Prop} : Stp (gName 11 v (x0 :: x1 :: x2 :: x3 :: x4 :: x5 :: x6 :: x7 :: x8 :: x9 :: x10 :: y :: l) H Q) (Q (x0 :: x1 :: x2 :: x3 :: x4 :: x5 :: x6 :: x7 :: x8 :: x9 :: x10 :: some v :: l) H) := ⟨z_nm11⟩
instance i_z_var12 {x0 x1 x2 x3 x4 x5 x6 x7 x8 x9 x10 x11 : Option V} {v : V} {l : L2.St} : Stp (tVar 12 (x0 :: x1 :: x2 :: x3 :: x4 :: x5 :: x6 :: x7 :: x8 :: x9 :: x10 :: x11 :: some v :: l) H Q) (Q v H) := ⟨z_var12⟩
instance i_z_nm12 {x0 x1 x2 x3 x4 x5 x6 x7 x8 x9 x10 x11 : Option V} {y : Option V} {v : V} {l : L2.St} {Q : L2.St → Hp → Prop} : Stp (gName 12 v (x0 :: x1 :: x2 :: x3 :: x4 :: x5 :: x6 :: x7 :: x8 :: x9 :: x10 :: x11 :: y :: l) H Q) (Q (x0 :: x1 :: x2 :: x3 :: x4 :: x5 :: x6 :: x7 :: x8 :: x9 :: x10 :: x11 :: some v :: l) H) := ⟨z_nm12⟩
instance i_z_var13 {x0 x1 x2 x3 x4 x5 x6 x7 x8 x9 x10 x11 x12 : Option V} {v : V} {l : L2.St} : Stp (tVar 13 (x0 :: x1 :: x2 :: x3 :: x4 :: x5 :: x6 :: x7 :: x8 :: x9 :: x10 :: x11 :: x12 :: some v :: l) H Q) (Q v H) := ⟨z_var13⟩
instance i_z_nm13 {x0 x1 x2 x3 x4 x5 x6 x7 x8 x9 x10 x11 x12 : Option V} {y : Option V} {v : V} {l : L2.St} {Q : L2.St → Hp → Prop} : Stp (gName 13 v (x0 :: x1 :: x2 :: x3 :: x4 :: x5 :: x6 :: x7 :: x8 :: x9 :: x10 :: x11 :: x12 :: y :: l) H Q) (Q (x0 :: x1 :: x2 :: x3 :: x4 :: x5 :: x6 :: x7 :: x8 :: x9 :: x10 :: x11 :: x12 :: some v :: l) H) := ⟨z_nm13⟩
instance i_z_var14 {x0 x1 x2 x3 x4 x5 x6 x7 x8 x9 x10 x11 x12 x13 : Option V} {v : V} {l : L2.St} : Stp (tVar 14 (x0 :: x1 :: x2 :: x3 :: x4 :: x5 :: x6 :: x7 :: x8 :: x9 :: x10 :: x11 :: x12 :: x13 :: some v :: l) H Q) (Q v H) := ⟨z_var14⟩
instance i_z_nm14 {x0 x1 x2 x3 x4 x5 x6 x7 x8 x9 x10 x11 x12 x13 : Option V} {y : Option V} {v : V} {l : L2.St} {Q : L2.St → Hp → Prop} : Stp (gName 14 v (x0 :: x1 :: x2 :: x3 :: x4 :: x5 :: x6 :: x7 :: x8 :: x9 :: x10 :: x11 :: x12 :: x13 :: y :: l) H Q) (Q (x0 :: x1 :: x2 :: x3 :: x4 :: x5 :: x6 :: x7 :: x8 :: x9 :: x10 :: x11 :: x12 :: x13 :: some v :: l) H) := ⟨z_nm14⟩
instance i_z_var15 {x0 x1 x2 x3 x4 x5 x6 x7 x8 x9 x10 x11 x12 x13 x14 : Option V} {v : V} {l : L2.St} : Stp (tVar 15 (x0 :: x1 :: x2 :: x3 :: x4 :: x5 :: x6 :: x7 :: x8 :: x9 :: x10 :: x11 :: x12 :: x13 :: x14 :: some v :: l) H Q) (Q v H) := ⟨z_var15⟩
instance i_z_nm15 {x0 x1 x2 x3 x4 x5 x6 x7 x8 x9 x10 x11 x12 x13 x14 : Option V} {y : Option V} {v : V} {l : L2.St} {Q : L2.St → Hp → Prop} : Stp (gName 15 v (x0 :: x1 :: x2 :: x3 :: x4 :: x5 :: x6 :: x7 :: x8 :: x9 :: x10 :: x11 :: x12 :: x13 :: x14 :: y :: l) H Q) (Q (x0 :: x1 :: x2 :: x3 :: x4 :: x5 :: x6 :: x7 :: x8 :: x9 :: x10 :: x11 :: x12 :: x13 :: x14 :: some v :: l) H) := ⟨z_nm15⟩
instance i_z_var16 {x0 x1 x2 x3 x4 x5 x6 x7 x8 x9 x10 x11 x12 x13 x14 x15 : Option V} {v : V} {l : L2.St} : Stp (tVar 16 (x0 :: x1 :: x2 :: x3 :: x4 :: x5 :: x6 :: x7 :: x8 :: x9 :: x10 :: x11 :: x12 :: x13 :: x14 :: x15 :: some v :: l) H Q) (Q v H) := ⟨z_var16⟩
instance i_z_nm16 {x0 x1 x2 x3 x4 x5 x6 x7 x8 x9 x10 x11 x12 x13 x14 x15 : Option V} {y : Option V} {v : V} {l : L2.St} {Q : L2.St → Hp → Prop} : Stp (gName 16 v (x0 :: x1 :: x2 :: x3 :: x4 :: x5 :: x6 :: x7 :: x8 :: x9 :: x10 :: x11 :: x12 :: x13 :: x14 :: x15 :: y :: l) H Q) (Q (x0 :: x1 :: x2 :: x3 :: x4 :: x5 :: x6 :: x7 :: x8 :: x9 :: x10 :: x11 :: x12 :: x13 :: x14 :: x15 :: some v :: l) H) := ⟨z_nm16⟩
instance i_z_var17 {x0 x1 x2 x3 x4 x5 x6 x7 x8 x9 x10 x11 x12 x13 x14 x15 x16 : Option V} {v : V} {l : L2.St} : Stp (tVar 17 (x0 :: x1 :: x2 :: x3 :: x4 :: x5 :: x6 :: x7 :: x8 :: x9 :: x10 :: x11 :: x12 :: x13 :: x14 :: x15 :: x16 :: some v :: l) H Q) (Q v H) := ⟨z_var17⟩
instance i_z_nm17 {x0 x1 x2 x3 x4 x5 x6 x7 x8 x9 x10 x11 x12 x13 x14 x15 x16 : Option V} {y : Option V} {v : V} {l : L2.St} {Q : L2.St → Hp → Prop} : Stp (gName 17 v (x0 :: x1 :: x2 :: x3 :: x4 :: x5 :: x6 :: x7 :: x8 :: x9 :: x10 :: x11 :: x12 :: x13 :: x14 :: x15 :: x16 :: y :: l) H Q) (Q (x0 :: x1 :: x2 :: x3 :: x4 :: x5 :: x6 :: x7 :: x8 :: x9 :: x10 :: x11 :: x12 :: x13 :: x14 :: x15 :: x16 :: some v :: l) H) := ⟨z_nm17⟩
instance i_z_var18 {x0 x1 x2 x3 x4 x5 x6 x7 x8 x9 x10 x11 x12 x13 x14 x15 x16 x17 : Option V} {v : V} {l : L2.St} : Stp (tVar 18 (x0 :: x1 :: x2 :: x3 :: x4 :: x5 :: x6 :: x7 :: x8 :: x9 :: x10 :: x11 :: x12 :: x13 :: x14 :: x15 :: x16 :: x17 :: some v :: l) H Q) (Q v H) := ⟨z_var18⟩
instance i_z_nm18 {x0 x1 x2 x3 x4 x5 x6 x7 x8 x9 x10 x11 x12 x13 x14 x15 x16 x17 : Option V} {y : Option V} {v : V} {l : L2.St} {Q : L2.St → Hp → Prop} : Stp (gName 18 v (x0 :: x1 :: x2 :: x3 :: x4 :: x5 :: x6 :: x7 :: x8 :: x9 :: x10 :: x11 :: x12 :: x13 :: x14 :: x15 :: x16 :: x17 :: y :: l) H Q) (Q (x0 :: x1 :: x2 :: x3 :: x4 :: x5 :: x6 :: x7 :: x8 :: x9 :: x10 :: x11 :: x12 :: x13 :: x14 :: x15 :: x16 :: x17 :: some v :: l) H) := ⟨z_nm18⟩
instance i_z_var19 {x0 x1 x2 x3 x4 x5 x6 x7 x8 x9 x10 x11 x12 x13 x14 x15 x16 x17 x18 : Option V} {v : V} {l : L2.St} : Stp (tVar 19 (x0 :: x1 :: x2 :: x3 :: x4 :: x5 :: x6 :: x7 :: x8 :: x9 :: x10 :: x11 :: x12 :: x13 :: x14 :: x15 :: x16 :: x17 :: x18 :: some v :: l) H Q) (Q v H) := ⟨z_var19⟩
instance i_z_nm19 {x0 x1 x2 x3 x4 x5 x6 x7 x8 x9 x10 x11 x12 x13 x14 x15 x16 x17 x18 : Option V} {y : Option V} {v : V} {l : L2.St} {Q : L2.St → Hp → Prop} : Stp (gName 19 v (x0 :: x1 :: x2 :: x3 :: x4 :: x5 :: x6 :: x7 :: x8 :: x9 :: x10 :: x11 :: x12 :: x13 :: x14 :: x15 :: x16 :: x17 :: x18 :: y :: l) H Q) (Q (x0 :: x1 :: x2 :: x3 :: x4 :: x5 :: x6 :: x7 :: x8 :: x9 :: x10 :: x11 :: x12 :: x13 :: x14 :: x15 :: x16 :: x17 :: x18 :: some v :: l) H) := ⟨z_nm19⟩
instance i_z_var20 {x0 x1 x2 x3 x4 x5 x6 x7 x8 x9 x10 x11 x12 x13 x14 x15 x16 x17 x18 x19 : Option V} {v : V} {l : L2.St} : Stp (tVar 20 (x0 :: x1 :: x2 :: x3 :: x4 :: x5 :: x6 :: x7 :: x8 :: x9 :: x10 :: x11 :: x12 :: x13 :: x14 :: x15 :: x16 :: x17 :: x18 :: x19 :: some v :: l) H Q) (Q v H) := ⟨z_var20⟩
instance i_z_nm20 {x0 x1 x2 x3 x4 x5 x6 x7 x8 x9 x10 x11 x12 x13 x14 x15 x16 x17 x18 x19 : Option V} {y : Option V} {v : V} {l : L2.St} {Q : L2.St → Hp → Prop} : Stp (gName 20 v (x0 :: x1 :: x2 :: x3 :: x4 :: x5 :: x6 :: x7 :: x8 :: x9 :: x10 :: x11 :: x12 :: x13 :: x14 :: x15 :: x16 :: x17 :: x18 :: x19 :: y :: l) H Q) (Q (x0 :: x1 :: x2 :: x3 :: x4 :: x5 :: x6 :: x7 :: x8 :: x9 :: x10 :: x11 :: x12 :: x13 :: x14 :: x15 :: x16 :: x17 :: x18 :: x19 :: some v :: l) H) := ⟨z_nm20⟩
instance i_z_var21 {x0 x1 x2 x3 x4 x5 x6 x7 x8 x9 x10 x11 x12 x13 x14 x15 x16 x17 x18 x19 x20 : Option V} {v : V} {l : L2.St} : Stp (tVar 21 (x0 :: x1 :: x2 :: x3 :: x4 :: x5 :: x6 :: x7 :: x8 :: x9 :: x10 :: x11 :: x12 :: x13 :: x14 :: x15 :: x16 :: x17 :: x18 :: x19 :: x20 :: some v :: l) H Q) (Q v H) := ⟨z_var21⟩
instance i_z_nm21 {x0 x1 x2 x3 x4 x5 x6 x7 x8 x9 x10 x11 x12 x13 x14 x15 x16 x17 x18 x19 x20 : Option V} {y : Option V} {v : V} {l : L2.St} {Q : L2.St → Hp → Prop} : Stp (gName 21 v (x0 :: x1 :: x2 :: x3 :: x4 :: x5 :: x6 :: x7 :: x8 :: x9 :: x10 :: x11 :: x12 :: x13 :: x14 :: x15 :: x16 :: x17 :: x18 :: x19 :: x20 :: y :: l) H Q) (Q (x0 :: x1 :: x2 :: x3 :: x4 :: x5 :: x6 :: x7 :: x8 :: x9 :: x10 :: x11 :: x12 :: x13 :: x14 :: x15 :: x16 :: x17 :: x18 :: x19 :: x20 :: some v :: l) H) := ⟨z_nm21⟩
instance i_z_var22 {x0 x1 x2 x3 x4 x5 x6 x7 x8 x9 x10 x11 x12 x13 x14 x15 x16 x17 x18 x19 x20 x21 : Option V} {v : V} {l : L2.St} : Stp (tVar 22 (x0 :: x1 :: x2 :: x3 :: x4 :: x5 :: x6 :: x7 :: x8 :: x9 :: x10 :: x11 :: x12 :: x13 :: x14 :: x15 :: x16 :: x17 :: x18 :: x19 :: x20 :: x21 :: some v :: l) H Q) (Q v H) := ⟨z_var22⟩
instance i_z_nm22 {x0 x1 x2 x3 x4 x5 x6 x7 x8 x9 x10 x11 x12 x13 x14 x15 x16 x17 x18 x19 x20 x21 : Option V} {y : Option V} {v : V} {l : L2.St} {Q : L2.St → Hp → Prop} : Stp (gName 22 v (x0 :: x1 :: x2 :: x3 :: x4 :: x5 :: x6 :: x7 :: x8 :: x9 :: x10 :: x11 :: x12 :: x13 :: x14 :: x15 :: x16 :: x17 :: x18 :: x19 :: x20 :: x21 :: y :: l) H Q) (Q (x0 :: x1 :: x2 :: x3 :: x4 :: x5 :: x6 :: x7 :: x8 :: x9 :: x10 :: x11 :: x12 :: x13 :: x14 :: x15 :: x16 :: x17 :: x18 :: x19 :: x20 :: x21 :: some v :: l) H) := ⟨z_nm22⟩
instance i_z_var23 {x0 x1 x2 x3 x4 x5 x6 x7 x8 x9 x10 x11 x12 x13 x14 x15 x16 x17 x18 x19 x20 x21 x22 : Option V} {v : V} {l : L2.St} : Stp (tVar 23 (x0 :: x1 :: x2 :: x3 :: x4 :: x5 :: x6 :: x7 :: x8 :: x9 :: x10 :: x11 :: x12 :: x13 :: x14 :: x15 :: x16 :: x17 :: x18 :: x19 :: x20 :: x21 :: x22 :: some v :: l) H Q) (Q v H) := ⟨z_var23⟩
instance i_z_nm23 {x0 x1 x2 x3 x4 x5 x6 x7 x8 x9 x10 x11 x12 x13 x14 x15 x16 x17 x18 x19 x20 x21 x22 : Option V} {y : Option V} {v : V} {l : L2.St} {Q : L2.St → Hp → Prop} : Stp (gName 23 v (x0 :: x1 :: x2 :: x3 :: x4 :: x5 :: x6 :: x7 :: x8 :: x9 :: x10 :: x11 :: x12 :: x13 :: x14 :: x15 :: x16 :: x17 :: x18 :: x19 :: x20 :: x21 :: x22 :: y :: l) H Q) (Q (x0 :: x1 :: x2 :: x3 :: x4 :: x5 :: x6 :: x7 :: x8 :: x9 :: x10 :: x11 :: x12 :: x13 :: x14 :: x15 :: x16 :: x17 :: x18 :: x19 :: x20 :: x21 :: x22 :: some v :: l) H) := ⟨z_nm23⟩
end
end LX
/-! loops and comprehensions, with their new list and a locked dict looked after -/
namespace LX
open PySem PySem.Spec PyProof.Rows L2
theorem nin {a b : Addr} (h : a ≠ b) : a ∉ [b] := by simpa using h
theorem Fr.lock {H H' : Hp} {d : Addr} {u : HO} {od : Obj} (hd : H d = some u) (f : Fr [] (upd H d (.frz od u)) H') : Fr [] H (upd H' d u) := fun b o e _ => by
  by_cases hb : b = d
  · subst hb; rw [hd] at e; cases e; exact upd_same
  · rw [upd_ne hb]
    exact f.g0 (by rw [upd_ne hb]; exact e)
section
variable {K : PySem.W.Frag} {g : TG} {tt : TT} {te : TE} {vs : List Nat} {σ : L2.St} {H H1 : Hp} {R : Addr}
/-- the state of a comprehension's list R, new since H1: i turns are done -/
def LcI (H1 : Hp) (R : Addr) (Pv : Nat → List V → Hp → Prop) (i : Nat) (H' : Hp) : Prop := ∃ xs, xs.length ≤ i ∧ Pv i xs H' ∧ H' R = some (.lst xs) ∧ Fr [] H1 H'
/-- what is asked behind an element y -/
def LcY (H1 : Hp) (R : Addr) (Pv : Nat → List V → Hp → Prop) (i : Nat) (y : V) (H4 : Hp) : Prop := ∃ acc, H4 R = some (.lst acc) ∧ acc.length < sizeLine ∧ LcI H1 R Pv i (upd H4 R (.lst (acc ++ [y])))
theorem z_lcY {Pv : Nat → List V → Hp → Prop} {i : Nat} {y : V} {xs : List V} (hR : H1 R = none) (h1 : H R = some (.lst xs)) (f : Fr [] H1 H) (hl : xs.length ≤ i) (hs : i < sizeLine) (k : ∀ H5, Fr [R] H H5 → Fr [] H1 H5 → (∀ b, H b = none → H5 b = none) → Pv (i + 1) (xs ++ [y]) H5) : LcY H1 R Pv (i + 1) y H :=
  ⟨xs, h1, by omega, xs ++ [y], by rw [List.length_append]; show xs.length + 1 ≤ i + 1; omega, k _ (Fr.at (by simp)) (f.skip hR) (upd_free h1), upd_same, f.skip hR⟩
theorem z_lcN {Pv : Nat → List V → Hp → Prop} {i : Nat} {xs : List V} (h1 : H R = some (.lst xs)) (f : Fr [] H1 H) (hl : xs.length ≤ i) (k : Pv (i + 1) xs H) : LcI H1 R Pv (i + 1) H := ⟨xs, by omega, k, h1, f⟩
/-- a comprehension over a range -/
theorem z_lcR {lo : Int} {n : Nat} {Q : VK} (Pv : Nat → List V → Hp → Prop) (h0 : ∀ R H', H1 R = none → Fr [] H1 H' → Pv 0 [] H')
    (hs : ∀ R i xs H', H1 R = none → i < n → xs.length ≤ i → Pv i xs H' → H' R = some (.lst xs) → Fr [] H1 H' → g (.int (lo + i)) (wipe σ vs) H' fun σ2 H2 => wipe σ2 vs = wipe σ vs ∧ tt σ2 H2 fun b H3 =>
      if b = true then te σ2 H3 fun y H4 => LcY H1 R Pv (i + 1) y H4 else LcI H1 R Pv (i + 1) H3)
    (hd : ∀ R xs H', H1 R = none → Pv n xs H' → xs.length ≤ n → H' R = some (.lst xs) → Fr [] H1 H' → Q (.ref R) H') :
    oLc (Itr lo n) g tt te vs σ H1 Q := fun R hR =>
  lc_range (fun i H' => LcI H1 R Pv i H') ⟨[], Nat.le_refl _, h0 R _ hR (Fr.new hR), upd_same, Fr.new hR⟩ (fun i H' hi ⟨xs, hl, p, hx, f⟩ => hs R i xs H' hR hi hl p hx f) (fun H' ⟨xs, hl, p, hx, f⟩ => hd R xs H' hR p hl hx f)
/-- a comprehension over a list -/
theorem z_lcL {a : Addr} {src : List V} {Q : VK} (ha : H1 a = some (.lst src)) (Pv : Nat → List V → Hp → Prop) (h0 : ∀ R H', H1 R = none → Fr [] H1 H' → Pv 0 [] H')
    (hs : ∀ R i x xs H', H1 R = none → src[i]? = some x → i < src.length → xs.length ≤ i → Pv i xs H' → H' R = some (.lst xs) → Fr [] H1 H' → g x (wipe σ vs) H' fun σ2 H2 => wipe σ2 vs = wipe σ vs ∧ tt σ2 H2 fun b H3 =>
      if b = true then te σ2 H3 fun y H4 => LcY H1 R Pv (i + 1) y H4 else LcI H1 R Pv (i + 1) H3)
    (hd : ∀ R xs H', H1 R = none → Pv src.length xs H' → xs.length ≤ src.length → H' R = some (.lst xs) → Fr [] H1 H' → Q (.ref R) H') :
    oLc (Itl K a) g tt te vs σ H1 Q := fun R hR =>
  lc_list (xs := src) (fun i H' => LcI H1 R Pv i H') ⟨[], Nat.le_refl _, h0 R _ hR (Fr.new hR), upd_same, Fr.new hR⟩ (fun i H' _ ⟨xs, hl, p, hx, f⟩ => SqL.of (f.g0 ha))
    (fun i x H' hi ⟨xs, hl, p, hx, f⟩ => hs R i x xs H' hR hi (List.getElem?_eq_some_iff.mp hi).1 hl p hx f) (fun H' ⟨xs, hl, p, hx, f⟩ => hd R xs H' hR p hl hx f)
theorem Fr.seq {H H' : Hp} {a : Addr} {xs : List V} (f : Fr [] H H') (h : SqL K H a xs) : SqL K H' a xs := (show L2.Same H H' from fun b u e => f.g0 e).seq h
/-- over a list that may be the script -/
theorem z_lcQ {a : Addr} {src : List V} {Q : VK} (ha : SqL K H1 a src) (Pv : Nat → List V → Hp → Prop) (h0 : ∀ R H', H1 R = none → Fr [] H1 H' → Pv 0 [] H')
    (hs : ∀ R i x xs H', H1 R = none → src[i]? = some x → i < src.length → xs.length ≤ i → Pv i xs H' → H' R = some (.lst xs) → Fr [] H1 H' → g x (wipe σ vs) H' fun σ2 H2 => wipe σ2 vs = wipe σ vs ∧ tt σ2 H2 fun b H3 =>
      if b = true then te σ2 H3 fun y H4 => LcY H1 R Pv (i + 1) y H4 else LcI H1 R Pv (i + 1) H3)
    (hd : ∀ R xs H', H1 R = none → Pv src.length xs H' → xs.length ≤ src.length → H' R = some (.lst xs) → Fr [] H1 H' → Q (.ref R) H') :
    oLc (Itl K a) g tt te vs σ H1 Q := fun R hR =>
  lc_list (xs := src) (fun i H' => LcI H1 R Pv i H') ⟨[], Nat.le_refl _, h0 R _ hR (Fr.new hR), upd_same, Fr.new hR⟩ (fun i H' _ ⟨xs, hl, p, hx, f⟩ => f.seq ha)
    (fun i x H' hi ⟨xs, hl, p, hx, f⟩ => hs R i x xs H' hR hi (List.getElem?_eq_some_iff.mp hi).1 hl p hx f) (fun H' ⟨xs, hl, p, hx, f⟩ => hd R xs H' hR p hl hx f)
theorem z_iterQ {p : Addr} {xs : List V} {R : It → Hp → Prop} (h1 : SqL K H p xs) (h : R (Itl K p) H) : oIter K (.ref p) H R := ⟨p, rfl, ⟨xs, h1⟩, h⟩
/-- over a tuple -/
theorem z_lcT {a : Addr} {src : List V} {Q : VK} (ha : H1 a = some (.tup src)) (Pv : Nat → List V → Hp → Prop) (h0 : ∀ R H', H1 R = none → Fr [] H1 H' → Pv 0 [] H')
    (hs : ∀ R i x xs H', H1 R = none → src[i]? = some x → i < src.length → xs.length ≤ i → Pv i xs H' → H' R = some (.lst xs) → Fr [] H1 H' → g x (wipe σ vs) H' fun σ2 H2 => wipe σ2 vs = wipe σ vs ∧ tt σ2 H2 fun b H3 =>
      if b = true then te σ2 H3 fun y H4 => LcY H1 R Pv (i + 1) y H4 else LcI H1 R Pv (i + 1) H3)
    (hd : ∀ R xs H', H1 R = none → Pv src.length xs H' → xs.length ≤ src.length → H' R = some (.lst xs) → Fr [] H1 H' → Q (.ref R) H') :
    oLc (Itt K a) g tt te vs σ H1 Q := fun R hR =>
  lc_tup (xs := src) (fun i H' => LcI H1 R Pv i H') ⟨[], Nat.le_refl _, h0 R _ hR (Fr.new hR), upd_same, Fr.new hR⟩ (fun i H' _ ⟨xs, hl, p, hx, f⟩ => SqT.of (f.g0 ha))
    (fun i x H' hi ⟨xs, hl, p, hx, f⟩ => hs R i x xs H' hR hi (List.getElem?_eq_some_iff.mp hi).1 hl p hx f) (fun H' ⟨xs, hl, p, hx, f⟩ => hd R xs H' hR p hl hx f)
/-- a comprehension over a dict's keys; the dict is locked meanwhile (HF), and free again behind it -/
theorem z_lcK {td : TE} {d : Addr} {kvs : List (Key × V)} {Q : VK} (htd : ∀ H' (R : VK), R (.ref d) H' → td σ H' R) (hd : H d = some (.dK kvs)) (Pv : Nat → List V → Hp → Prop)
    (h0 : ∀ od HF R H', Fr [d] H HF → HF d = some (.frz od (.dK kvs)) → HF R = none → Fr [] HF H' → Pv 0 [] H')
    (hs : ∀ od HF R i k v xs H', Fr [d] H HF → HF d = some (.frz od (.dK kvs)) → HF R = none → kvs[i]? = some (k, v) → i < kvs.length → xs.length ≤ i → Pv i xs H' → H' R = some (.lst xs) → Fr [] HF H' → g (kV k) (wipe σ vs) H' fun σ2 H2 => wipe σ2 vs = wipe σ vs ∧ tt σ2 H2 fun b H3 =>
      if b = true then te σ2 H3 fun y H4 => LcY HF R Pv (i + 1) y H4 else LcI HF R Pv (i + 1) H3)
    (he : ∀ R xs H' H2, H R = none → Pv kvs.length xs H' → xs.length ≤ kvs.length → H2 R = some (.lst xs) → Fr [d] H' H2 → Fr [] H H2 → Q (.ref R) H2) :
    tLockE (tLc (iKeys td) g tt te vs) σ H Q := by
  refine ⟨d, .dK kvs, hd, trivial, fun od => ?_⟩
  refine htd _ _ ⟨d, od, rfl, Or.inl ⟨kvs, upd_same, fun R hR => ?_⟩⟩
  have hF : upd H d (.frz od (.dK kvs)) d = some (.frz od (.dK kvs)) := upd_same
  have fF : Fr [d] H (upd H d (.frz od (.dK kvs))) := Fr.at (by simp)
  have nR : R ≠ d := fun z => by rw [z, upd_same] at hR; cases hR
  have hR0 : H R = none := by rw [upd_ne nR] at hR; exact hR
  have lk : ∀ H', Fr [] (upd H d (.frz od (.dK kvs))) H' → Fr [] H (upd H' d (.dK kvs)) := fun H' f => Fr.lock hd f
  generalize upd H d (.frz od (.dK kvs)) = HF at hF fF hR lk
  refine ⟨fun i m H' => m = kvs.length - i ∧ i ≤ kvs.length ∧ LcI HF R Pv i H', ⟨kvs.length, by simp, Nat.zero_le _, [], Nat.le_refl _, h0 od HF R _ fF hF hR (Fr.new hR), upd_same, Fr.new hR⟩, ?_⟩
  rintro i m H' ⟨rfl, hi, xs, hl, p, hx, f⟩
  by_cases hlt : i < kvs.length
  · refine .inr ⟨⟨f.g0 hF, hlt⟩, fun H' => LcI HF R Pv (i + 1) H', fun H'' p' => ⟨kvs.length - (i + 1), by omega, rfl, hlt, p'⟩, fun x H'' y => ?_⟩
    obtain ⟨e, k, v, hk, ex⟩ := y
    subst e ex
    exact hs od HF R i k v xs _ fF hF hR hk hlt hl p hx f
  · have e : i = kvs.length := by omega
    subst e
    exact .inl ⟨⟨f.g0 hF, Nat.le_refl _⟩, f.g0 hF, he R xs H' _ hR0 p hl (by rw [upd_ne nR]; exact hx) (Fr.at (by simp)) (lk _ f)⟩
/-- a dict locked: HF is H with it locked -/
structure Lk (H : Hp) (d : Addr) (kvs : List (Key × V)) (od : Obj) (HF : Hp) : Prop where
  f : Fr [d] H HF
  at' : HF d = some (.frz od (.dK kvs))
  lk : ∀ F H', d ∉ F → Fr F HF H' → Fr F H (upd H' d (.dK kvs))
theorem Fr.lockF {F : List Addr} {H H' : Hp} {d : Addr} {u : HO} {od : Obj} (hd : H d = some u) (f : Fr F (upd H d (.frz od u)) H') : Fr F H (upd H' d u) := fun b o e n => by
  by_cases hb : b = d
  · subst hb; rw [hd] at e; cases e; exact upd_same
  · rw [upd_ne hb]
    exact f b o (by rw [upd_ne hb]; exact e) n
def FkN (HF : Hp) (F : List Addr) (Pv : Nat → L2.St → Hp → Prop) (i : Nat) (σ : L2.St) (H : Hp) : Prop := Pv i σ H ∧ Fr F HF H
def FkR (d : Addr) (kvs : List (Key × V)) (od : Obj) (R : Hp → Prop) (H : Hp) : Prop := H d = some (.frz od (.dK kvs)) ∧ R (upd H d (.dK kvs))
theorem z_fkR {H HF H3 : Hp} {F : List Addr} {d : Addr} {kvs : List (Key × V)} {od : Obj} {R : Hp → Prop} (L : Lk H d kvs od HF) (hF : d ∉ F) (f : Fr F HF H3) (k : ∀ H4, Fr [d] H3 H4 → Fr F H H4 → R H4) : FkR d kvs od R H3 := ⟨f.g L.at' hF, k _ (Fr.at (by simp)) (L.lk F _ hF f)⟩
theorem z_fkN {HF : Hp} {F : List Addr} {Pv : Nat → L2.St → Hp → Prop} {i : Nat} {σ : L2.St} {H : Hp} (f : Fr F HF H) (k : Pv i σ H) : FkN HF F Pv i σ H := ⟨k, f⟩
/-- a for over a dict's keys; the dict is locked meanwhile; the body may change what F names -/
theorem z_forK {D : Ends} {td : TE} {tb : TS} {d : Addr} {kvs : List (Key × V)} (F : List Addr) (hF : d ∉ F) (htd : ∀ H' (R : VK), R (.ref d) H' → td σ H' R) (hd : H d = some (.dK kvs)) (Pv : Nat → L2.St → Hp → Prop)
    (h0 : ∀ od HF, Lk H d kvs od HF → Pv 0 σ HF)
    (hs : ∀ od HF i k v σ' H', Lk H d kvs od HF → kvs[i]? = some (k, v) → i < kvs.length → Pv i σ' H' → Fr F HF H' → H' d = some (.frz od (.dK kvs)) → g (kV k) σ' H' fun σ2 H2 => tb ⟨FkN HF F Pv (i + 1), fun v H3 => FkR d kvs od (D.rt v) H3, fun σ3 H3 => FkR d kvs od (D.nx σ3) H3, FkN HF F Pv (i + 1)⟩ σ2 H2)
    (he : ∀ σ' H' H2, Pv kvs.length σ' H' → Fr [d] H' H2 → H2 d = some (.dK kvs) → Fr F H H2 → D.nx σ' H2) :
    tLock (tFor (iKeys td) g tb) D σ H := by
  refine ⟨d, .dK kvs, hd, trivial, fun od => ?_⟩
  refine htd _ _ ⟨d, od, rfl, Or.inl ⟨kvs, upd_same, ?_⟩⟩
  have L : Lk H d kvs od (upd H d (.frz od (.dK kvs))) := ⟨Fr.at (by simp), upd_same, fun F H' _ f => Fr.lockF hd f⟩
  generalize upd H d (.frz od (.dK kvs)) = HF at L
  refine ⟨fun i m σ' H' => m = kvs.length - i ∧ i ≤ kvs.length ∧ FkN HF F Pv i σ' H', ⟨kvs.length, by simp, Nat.zero_le _, h0 od HF L, Fr.rfl'⟩, ?_⟩
  rintro i m σ' H' ⟨rfl, hi, p, f⟩
  by_cases hlt : i < kvs.length
  · refine .inr ⟨⟨f.g L.at' hF, hlt⟩, FkN HF F Pv (i + 1), fun σ'' H'' p' => ⟨kvs.length - (i + 1), by omega, rfl, hlt, p'⟩, fun x H'' y => ?_⟩
    obtain ⟨e, k, v, hk, ex⟩ := y
    subst e ex
    exact hs od HF i k v σ' _ L hk hlt p f (f.g L.at' hF)
  · have e : i = kvs.length := by omega
    subst e
    exact .inl ⟨⟨f.g L.at' hF, Nat.le_refl _⟩, f.g L.at' hF, he σ' H' _ p (Fr.at (by simp)) upd_same (L.lk F _ hF f)⟩
end
end LX
/-! more rules: chains, tuples, sorted of tuples -/
namespace LX
open PySem PySem.Spec PyProof.Rows L2
section
variable {K : PySem.W.Frag} {σ : L2.St} {H : Hp} {D : Ends} {Q : VK}
theorem z_chain {r r' : R2} {ta tb tc : TE} (h : ta σ H fun x H1 => tb σ H1 fun y H2 => r x y H2 fun z H3 => oBl z H3 fun k H3 => if k = true then tc σ H3 fun u H4 => r' y u H4 Q else Q (.bl false) H3) : tChain r r' ta tb tc σ H Q := h
instance i_chain {r r' : R2} {ta tb tc : TE} : Stp (tChain r r' ta tb tc σ H Q) (ta σ H fun x H1 => tb σ H1 fun y H2 => r x y H2 fun z H3 => oBl z H3 fun k H3 => if k = true then tc σ H3 fun u H4 => r' y u H4 Q else Q (.bl false) H3) := ⟨z_chain⟩
theorem z_addT {a b : Addr} {xs ys : List V} (h1 : H a = some (.tup xs)) (h2 : H b = some (.tup ys)) (h3 : xs.length + ys.length ≤ sizeLine) (n1 : xs ≠ []) (n2 : ys ≠ []) (h : ∀ p H1, H p = none → Fr [] H H1 → H1 p = some (.tup (xs ++ ys)) → Q (.ref p) H1) : rAddU K (.ref a) (.ref b) H Q :=
  Or.inr ⟨a, b, xs, ys, rfl, rfl, SqT.of h1, SqT.of h2, h3, fun e => absurd e n1, fun _ e => absurd e n2, fun _ _ => z_new h⟩
def rTupU (K : PySem.W.Frag) : List V → Hp → VK → Prop := fun xs H Q => ∃ p ys, xs = [.ref p] ∧ ((SqL K H p ys ∧ ∀ l, H l = none → Q (.ref l) (upd H l (.tup ys))) ∨ (SqT K H p ys ∧ Q (.ref p) H))
theorem call_tupleU {X : Cx} : CallR X (.type "tuple") (rTupU X.K) := call_tuple_of
theorem z_tupL {p : Addr} {ys : List V} (h1 : H p = some (.lst ys)) (h : ∀ l H1, H l = none → Fr [] H H1 → H1 l = some (.tup ys) → Q (.ref l) H1) : rTupU K [.ref p] H Q := ⟨p, ys, rfl, Or.inl ⟨SqL.of h1, z_new h⟩⟩
theorem z_tupT {p : Addr} {ys : List V} (h1 : H p = some (.tup ys)) (h : Q (.ref p) H) : rTupU K [.ref p] H Q := ⟨p, ys, rfl, Or.inr ⟨SqT.of h1, h⟩⟩
/-- sorted of a list of tuples, as data -/
def rSortT (K : PySem.W.Frag) : List V → Hp → VK → Prop := fun vs H Q => ∃ (a : Addr) (bs : List (Addr × PyData)), vs = [.ref a] ∧ SqL K H a (bs.map fun b => V.ref b.1) ∧ (∀ b ∈ bs, Dp K H (.ref b.1) b.2) ∧ (∀ b ∈ bs, ∀ b' ∈ bs, PySem.W.alike b.2 b'.2 = true) ∧ (∀ b ∈ bs, ∃ x r, b.2 = .tuple (x :: r)) ∧ bs.length ≤ sizeLine ∧ (∀ b ∈ bs, b.2.depth ≤ 60) ∧
  ∀ p, H p = none → Q (.ref p) (upd H p (.lst ((bs.mergeSort (PySem.W.dataLe false (fun b : Addr × PyData => b.2))).map fun b => V.ref b.1)))
theorem each_refs : ∀ {bs : List (Addr × PyData)} {its : List Value}, Vals (bs.map fun b => V.ref b.1) its → PySem.W.EachIs (fun v (b : Addr × PyData) => v = .ref b.1) its bs
  | [], _, r => by cases r; exact .nil
  | b :: bs, _, r => by
    cases r with
    | cons h t => exact .cons h (each_refs t)
theorem refs_each : ∀ {bs : List (Addr × PyData)} {its : List Value}, PySem.W.EachIs (fun v (b : Addr × PyData) => v = .ref b.1) its bs → Vals (bs.map fun b => V.ref b.1) its
  | _, _, .nil => .nil
  | _, _, .cons h t => .cons h (refs_each t)
theorem call_sortedT {X : Cx} (hu : X.A.units + 64 < cLine) : CallR X (.builtin "sorted") (rSortT X.K) := by
  intro pins s σ H vs us Q I r h
  obtain ⟨a, bs, rfl, hs, hd, hal, htp, hl, hdep, q⟩ := h
  obtain ⟨its, rv, pl, _⟩ := I.list hs
  rw [Vals.ref1 r]
  have e1 := each_refs rv
  have er : PySem.W.EachIs (fun v (b : Addr × PyData) => ∃ as, Reads s.heap v b.2 as) its bs := PySem.W.EachIs.of_zip e1.length fun p hp => by
    have hm := (List.of_mem_zip hp).2
    have hv := e1.zip p hp
    exact Dp.reads I _ _ _ (hd _ hm) hv
  refine PySem.W.sorted_data (enc := fun b : Addr × PyData => b.2) (by simpa using pl.isList) e1 er (fun d h d' h' => ?_) (.inl fun d h => ?_) hl (fun b hb => by have := hdep b hb; omega) fun out ho eo => ?_
  · obtain ⟨b, hb, rfl⟩ := List.mem_map.mp h
    obtain ⟨b', hb', rfl⟩ := List.mem_map.mp h'
    exact hal b hb b' hb'
  · obtain ⟨b, hb, rfl⟩ := List.mem_map.mp h
    exact htp b hb
  obtain ⟨ep, he'⟩ := PyProof.Rows.sortedAll_at s.heap its out.toArray
  have hlen : ((bs.mergeSort (PySem.W.dataLe false (fun b : Addr × PyData => b.2))).map fun b => V.ref b.1).length ≤ sizeLine := by rw [List.length_map, List.length_mergeSort]; exact hl
  exact ⟨.ref _, upd H (s.heap.objs.size + 1) (.lst ((bs.mergeSort (PySem.W.dataLe false (fun b : Addr × PyData => b.2))).map fun b => V.ref b.1)), I.laid (t' := s.toks) (fun _ _ => PyProof.Rows.sortedAll_old) (Nat.le_succ _) ⟨hlen, out, ep, refs_each eo, he'⟩, rfl, q _ (I.hok.fresh (Nat.le_succ _))⟩
/-- .. already in order -/
theorem z_sortT {a : Addr} {bs : List (Addr × PyData)} (h1 : H a = some (.lst (bs.map fun b => V.ref b.1))) (h2 : ∀ b ∈ bs, Dp K H (.ref b.1) b.2) (h3 : ∀ b ∈ bs, ∀ b' ∈ bs, PySem.W.alike b.2 b'.2 = true) (h4 : ∀ b ∈ bs, ∃ x r, b.2 = .tuple (x :: r)) (h5 : bs.length ≤ sizeLine) (h6 : ∀ b ∈ bs, b.2.depth ≤ 60)
    (h7 : bs.Pairwise fun x y => PySem.W.dataLe false (fun b : Addr × PyData => b.2) x y = true) (h : ∀ p H1, H p = none → Fr [] H H1 → H1 p = some (.lst (bs.map fun b => V.ref b.1)) → Q (.ref p) H1) : rSortT K [.ref a] H Q :=
  ⟨a, bs, rfl, SqL.of h1, h2, h3, h4, h5, h6, by rw [List.mergeSort_of_pairwise h7]; exact fun p hp => h p _ hp (Fr.new hp) upd_same⟩
end
end LX
/-! own exceptions over ValueError whose __init__ begins with super().__init__(..) -/
namespace LX
open PySem PySem.Spec PyProof.Rows L2 NdefX PySem.W PySem.HandSPX

/-- what the written part says of the class at C and of its __init__ at f -/
structure SupTxt (P : Program) (K : Frag) (mg : Str → Option Value) (C : Addr) (cda cc : Addr) (scope : Scope) : Prop where
  ox : OexC K C
  code : ∃ (ccl : Value) (cdd : Option Addr) (vs : Array Value) (ccs : Array (Option Value)) (file : Str) (tf : Tok), K.lookup cda = some ⟨ccl, cdd, .fields vs, ccs⟩ ∧ vs[2]? = some (.str file tf) ∧ ((P.main.file : Str) == file) = true
  cell : ∃ (cl : Value) (cld : Option Addr) (csl : Array (Option Value)), K.lookup cc = some ⟨cl, cld, .cell (some (.ref C)), csl⟩
  cls : ∃ cdC, clsIn K C = some cdC
  sub : mroIn K C (.ref C) = some true
  init : ks_superIn K C C "__init__" = some (some (.builtin "ValueError.__init__"))
  isB : subIn K (.ref C) (.type "ValueError") = some true
  third : nsIn K cStatics "thirdparty.any" = some none
  mgS : mg "super" = none
  hks : scope.names.lookup ("super" : Str) = some .globalImplicit
  hkc : scope.names.lookup ("__class__" : Str) = some .free
  htop : (P.main.scope.names.lookup ("super" : Str)).isSome = false

section
variable {prog : Program} {w : World} {M : Model} {A : Around} {E : Value → Shared → Prop} {s : Shared} {i : String} {x u : Addr}
theorem mw_callWith {pos : Pos} {first : List Value} {args : List (Bool × Sem Value)} {Q : Value → Shared → Prop} (hplain : args.any (·.1) = false)
    (h : wpAny M A (evalArgs (.ref u) true args []) (fun ar s₁ => s₁.heap.get? u = some (kxs_mw i x) ∧ wpAny M A (call (.ref u) (first ++ ar.pos) ar.kw) Q E s₁) E s) : wpAny M A (callWith pos (.ref u) first args []) Q E s :=
  kxs_callWith (i := i) (x := x) hplain h
theorem mw_call {t0 C : Addr} {rest : List Value} {nm q : Str} {N : Addr} {bs bm : List Value} {hdct : Bool} {sn : List Str} {sub : List Value} {ab : Bool} {col : Option Bool} {dd : Option Addr} {k0 k1 k2 k3 k5 : Option Value} {h : Heap} {g : Array GenState} {d : Drawn} {t : Nat} {os : OsState} {Q : Value → Shared → Prop}
    (hC : h.get? C = some (excClassObj nm q C N bs bm hdct sn sub ab col dd k0 k1 k2 k3 k5 "ValueError.__new__")) (he : h.get? x = some (excO C t0)) (hu : h.get? u = some (kxs_mw "ValueError.__init__" x)) (hrest : rest.length ≤ sizeLine)
    (hq : ∀ h' t1, (∀ b o, b ≠ x → h.get? b = some o → h'.get? b = some o) → h'.get? x = some (excO C t1) → Q .none ⟨h', g, d, t, os⟩) :
    wpAny (model prog w) A (call (.ref u) rest) Q E ⟨h, g, d, t, os⟩ := by
  refine wpAny_call (codeAny_of_tree ?_)
  show wpAny _ A.in1 (callAny (.ref u) ⟨rest, []⟩) _ _ _
  simp only [callAny]
  refine wpAny_bind (wpAny_load hu ?_)
  simp only [kxs_mw, show (Value.type "method-wrapper" == Value.type "method" || Value.type "method-wrapper" == Value.type "builtin_function_or_method" || Value.type "method-wrapper" == Value.type "method-wrapper") = true by decide, if_true]
  refine KFB.if_so (by decide) ?_
  refine wpAny_bind (check_bound_init F.excBase_ValueError.toExcCallFacts hC he rfl ?_)
  refine wpAny_bind (wpAny_pure (wpAny_pure ?_))
  refine ⟨plainId_quiet F.excBase_ValueError.init.plain _, codeAny_builtin F.excBase_ValueError.initEntry ?_⟩
  rw [Around.under_plainId F.excBase_ValueError.init.plain _]
  wp_walk
  refine hq _ h.objs.size (fun b o hb ho => ?_) ?_
  · rw [Heap.get?_update_other _ _ (Ne.symm hb)]
    exact Heap.get?_push_of_some _ ho
  · rw [Heap.get?_update_self _ (Heap.get?_push_of_some _ he) rfl]
    rfl
end

/-- the reading of super().__init__(e, ..) as the first statement of C's own __init__, self in slot 0 -/
def tSup (C : Addr) (ta : TA) : TS := fun D σ H => ∃ a : Addr, σ[0]? = some (some (.ref a)) ∧ H a = some (exo a C none) ∧ ta σ H fun vs H1 => vs.length ≤ sizeLine ∧ H1 a = some (exo a C none) ∧ D.nx σ H1

section
variable {P : Program} {w : World} {K : PySem.W.Frag} {mg : Str → Option Value} {base : Heap}
theorem fn_sup {CX : CXT} {k : Nat} {f : Addr} {name qual : Str} {params : Arguments} {scope : Scope} {dV kV doc pm ct oc : Value} {cda cc C : Addr} {an od : Option Addr} {osl : Array (Option Value)} {N ps : List Str} {sp : Sp}
    {p0 p1 p2 p3 p4 : Pos} {e : Expr} {es : List Expr} {rest : List Stmt} {ar : Arg}
    (lk : K.lookup f = some ⟨oc, od, .func (PySem.W.fnX name qual params (.Expr (.Call (.Attribute (.Call (.Name "super" p0) [] [] p1) "__init__" p2) (e :: es) [] p3) p4 :: rest) scope [("__class__", cc)] dV kV doc pm an (.ref cda) ct), osl⟩)
    (hcd : PySem.W.codeIn K (.ref cda) qual = true) (S : NScope N ps ["__class__"] scope) (T : SupTxt P K mg C cda cc scope) (hp : (params.posonlyargs ++ params.args).head? = some ar) (hp0 : ps[0]? = some ar.arg)
    {pl : Env → Sem Bool}
    (hev : ∀ L, eval (.Call (.Attribute (.Call (.Name "super" p0) [] [] p1) "__init__" p2) (e :: es) [] p3) (envX qual scope L f (.ref cda) [("__class__", cc)]) = (do
      let ov ← attributeBase (.Call (.Name "super" p0) [] [] p1) "__init__" (envX qual scope L f (.ref cda) [("__class__", cc)]) (eval (.Call (.Name "super" p0) [] [] p1) (envX qual scope L f (.ref cda) [("__class__", cc)]))
      standAt p2.atName
      let (f', first) ← holding [ov] (getMethod ov "__init__" (pl (envX qual scope L f (.ref cda) [("__class__", cc)])))
      callWith p3 f' first (backTo p3 (starEach (e :: es) (envX qual scope L f (.ref cda) [("__class__", cc)]))) []))
    (hst : ∀ env, starEach (e :: es) env = (false, eval e env) :: starEach es env) (hplain : ∀ env, (backTo p3 (starEach es env)).any (·.1) = false)
    (hint : ∀ L, interactive (envX qual scope L f (.ref cda) [("__class__", cc)]) = false) (hsw : ∀ L, swapsWith (.Call (.Attribute (.Call (.Name "super" p0) [] [] p1) "__init__" p2) (e :: es) [] p3) none p4.line (envX qual scope L f (.ref cda) [("__class__", cc)]) = pure false)
    (len : ∀ vs H Q E, sp vs H Q E → vs.length = ps.length)
    (hbody : ∀ (A : Around) (outer : List Env) (s : Shared) (H : Hp) (vs : List V) (Q : VK) (E : XK), Room k (A.deeper (envX qual scope s.heap.objs.size f (.ref cda) [("__class__", cc)])) → sp vs H Q E →
      ∃ ta t, PA (ncx CX P w K mg base N ⟨name, qual, params, .Expr (.Call (.Attribute (.Call (.Name "super" p0) [] [] p1) "__init__" p2) (e :: es) [] p3) p4 :: rest, scope, [("__class__", cc)], cda⟩ f A outer s H E) (e :: es) ta ∧
        PSs (ncx CX P w K mg base N ⟨name, qual, params, .Expr (.Call (.Attribute (.Call (.Name "super" p0) [] [] p1) "__init__" p2) (e :: es) [] p3) p4 :: rest, scope, [("__class__", cc)], cda⟩ f A outer s H E) rest t ∧
        tSeq (tSup C ta) t { nx := fun _ H' => Q .non H', rt := Q } (startF N vs [some (.ref C)]) H) :
    FnOk P w K mg base CX (k + 1) f (PySem.W.fnX name qual params (.Expr (.Call (.Attribute (.Call (.Name "super" p0) [] [] p1) "__init__" p2) (e :: es) [] p3) p4 :: rest) scope [("__class__", cc)] dV kV doc pm an (.ref cda) ct) ps sp := by
  refine ⟨len, fun A outer s H args us vs Q E hr e0 hb r hsp => ?_⟩
  have hl := len _ _ _ _ hsp
  have KX : K.In s.heap := e0.mod.kin.keeps fun b o e => (e0.bs b o e).1
  have lim : s.heap.NoLimit := e0.mod.nolimit.keeps fun b o e => (e0.bs b o e).1
  obtain ⟨cl, cld, csl, hcell⟩ := T.cell
  have CA : CellsAt [(("__class__" : Str), cc)] ["__class__"] [some (.ref C)] s.heap H := by
    have hcc : s.heap.get? cc = some ⟨cl, cld, .cell (some (.ref C)), csl⟩ := KX _ _ hcell
    have hn : H cc = none := (e0.bs cc _ (e0.mod.kin _ _ hcell)).2
    refine ⟨rfl, fun y c h => ?_, fun y z c h1 h2 => ?_, fun j y h => ?_⟩
    · have : y = "__class__" ∧ c = cc := by
        simp only [List.lookup] at h
        split at h
        · rename_i q
          exact ⟨by simpa using q, (Option.some.inj h).symm⟩
        · cases h
      obtain ⟨rfl, rfl⟩ := this
      exact ⟨hn, _, _, hcc, rfl⟩
    · have key : ∀ {y : Str}, List.lookup y [(("__class__" : Str), cc)] = some c → y = "__class__" := fun {y} h => by
        simp only [List.lookup] at h
        split at h
        · rename_i q
          simpa using q
        · cases h
      rw [key h1, key h2]
    · cases j with
      | zero =>
        have : y = "__class__" := (Option.some.inj h).symm
        subst this
        refine ⟨cc, by simp [List.lookup], fun v hv => ?_⟩
        have : v = .ref C := by simpa using hv.symm
        subst this
        exact ⟨.ref C, rfl, _, hcc, rfl⟩
      | succ j => simp at h
  refine ks_codeAny_call_defAt (binds := ps.zip us) hr.depth (KX _ _ lk) rfl lim (codeRec_of KX hcd) rfl hb S.nocell (fun x hx => S.par x.1 (List.of_mem_zip hx).1) (fun h₁ hns kp => ?_) S.co S.gen S.kind
  obtain ⟨ta, t, hta, ht, hq⟩ := hbody A outer s H vs Q E (hr.deeper _) hsp
  obtain ⟨a, hσ, hea, hq⟩ := hq
  have I : Inv (ncx CX P w K mg base N ⟨name, qual, params, .Expr (.Call (.Attribute (.Call (.Name "super" p0) [] [] p1) "__init__" p2) (e :: es) [] p3) p4 :: rest, scope, [("__class__", cc)], cda⟩ f A outer s H E) [] (startF N vs [some (.ref C)]) H { s with heap := h₁, toks := s.toks + (ps.zip us).length } :=
    inv_startN (F := ⟨name, qual, params, .Expr (.Call (.Attribute (.Call (.Name "super" p0) [] [] p1) "__init__" p2) (e :: es) [] p3) p4 :: rest, scope, [("__class__", cc)], cda⟩) S hr.hd e0 hl r CA hns kp
  generalize hX : ncx CX P w K mg base N ⟨name, qual, params, .Expr (.Call (.Attribute (.Call (.Name "super" p0) [] [] p1) "__init__" p2) (e :: es) [] p3) p4 :: rest, scope, [("__class__", cc)], cda⟩ f A outer s H E = X at hta ht I
  have eK : X.K = K := by rw [← hX]; rfl
  have eP : X.prog = P := by rw [← hX]; rfl
  have ew : X.w = w := by rw [← hX]; rfl
  have emg : X.mg = mg := by rw [← hX]; rfl
  have eN : X.N = N := by rw [← hX]; rfl
  have eenv : X.env = envX qual scope s.heap.objs.size f (.ref cda) [("__class__", cc)] := by rw [← hX]; rfl
  have eA : X.A = A.deeper X.env := by rw [← hX]; rfl
  have exe : X.xe = fun e s' => wpAny (model P w) (A.deeper (envX qual scope s.heap.objs.size f (.ref cda) [("__class__", cc)])) (leaving (envX qual scope s.heap.objs.size f (.ref cda) [("__class__", cc)]) e) (fun _ s'' => CX outer H s E e s'') (fun e' s'' => CX outer H s E e' s'') s' := by rw [← hX]; rfl
  have fin : ∀ {s' : Shared} {σ' : L2.St} {H' : Hp} {v : V} {u : Value}, Inv X [] σ' H' s' → L2.RelV v u → Q v H' → CE outer P w H s Q u s' :=
    fun {s' σ' H' v u} J rv q => by
      subst hX
      exact ⟨v, H', J.os, J.bare, J.base, J.hok, rv, q⟩
  show PySem.wpAt (model P w) (A.deeper (envX qual scope s.heap.objs.size f (.ref cda) [("__class__", cc)])) (.func (.Expr (.Call (.Attribute (.Call (.Name "super" p0) [] [] p1) "__init__" p2) (e :: es) [] p3) p4 :: rest) (envX qual scope s.heap.objs.size f (.ref cda) [("__class__", cc)]))
    (execs (.Expr (.Call (.Attribute (.Call (.Name "super" p0) [] [] p1) "__init__" p2) (e :: es) [] p3) p4 :: rest) (envX qual scope s.heap.objs.size f (.ref cda) [("__class__", cc)])) _ _ _
  rw [← eenv, ← eA]
  have eM : model P w = model X.prog X.w := by rw [eP, ew]
  rw [eM]
  refine ks_wpAt_mono (Q := SP X [] { nx := fun _ H' => Q .non H', rt := Q }) (E := X.xe) ?_ (fun fl s' hs => ?_) (fun e s' hs => ?_)
  · refine ks_wpAt_execs_cons (ks_wpAt_Expr_any (ks_wpAt_MethodCall ?_ (by rw [eenv]; exact hev _)) (by rw [eenv]; exact hint _) (by rw [eenv]; exact hsw _))
    -- super()
    obtain ⟨ccl, cdd, cvs, ccs, file, tf, hcode, hvs, hfile⟩ := T.code
    obtain ⟨cdC, hcl⟩ := T.cls
    obtain ⟨t1, ho⟩ := exo_at I.hok hea
    have XK : K.In h₁ := by have := I.kIn; rw [eK] at this; exact this
    obtain ⟨oD, hD1, hD2⟩ : ∃ oD, h₁.get? C = some oD ∧ oD.data = .cls cdC := by
      unfold clsIn at hcl
      split at hcl
      · rename_i c d cd' sl ho
        cases hcl
        exact ⟨_, XK _ _ ho, rfl⟩
      · cases hcl
    have hN0 : X.N[0]? = some ar.arg := by
      rw [eN]
      have z := congrArg (fun l => l[0]?) S.pre
      rw [List.getElem?_take_of_lt (by simp)] at z
      rw [z, List.getElem?_append_left (by obtain ⟨h0, _⟩ := List.getElem?_eq_some_iff.mp hp0; exact h0), hp0]
    have harl : scope.names.lookup ar.arg = some .local := S.par _ (List.mem_of_getElem? hp0)
    obtain ⟨m, hn, hlk⟩ := I.loc
    obtain ⟨u0, ru0, lo0⟩ := hlk 0 ar.arg (.ref a) hN0 hσ (by rw [eenv]; exact Or.inl harl)
    obtain rfl : u0 = Value.ref a := ru0
    have hm0 : m ar.arg = some (.ref a) := by
      rcases lo0 with ⟨_, z⟩ | ⟨z, _⟩
      · exact z
      · exfalso
        have z' : scope.names.lookup ar.arg = some .cell ∨ scope.names.lookup ar.arg = some .free := by rw [eenv] at z; exact z
        rw [harl] at z'
        rcases z' with z' | z' <;> cases z'
    have hkind : X.env.scope.kind = .function := I.ok.kind
    have hks : X.env.kindOf "super" = some .globalImplicit := by rw [eenv]; exact T.hks
    have hkc : X.env.kindOf "__class__" = some .free := by rw [eenv]; exact T.hkc
    have hka : X.env.kindOf ar.arg = some .local := by rw [eenv]; exact harl
    refine ks_wpAt_super_base (of := ⟨oc, od, .func (PySem.W.fnX name qual params (.Expr (.Call (.Attribute (.Call (.Name "super" p0) [] [] p1) "__init__" p2) (e :: es) [] p3) p4 :: rest) scope [("__class__", cc)] dV kV doc pm an (.ref cda) ct), osl⟩) (f := f) (cc := cda) hks hkc (by decide) (by rw [eenv]) (XK _ _ lk) rfl hp (by rw [eenv]) (XK _ _ hcode) rfl hvs (by rw [eP]; exact hfile) (by rw [eP]; exact T.htop) ?_
    obtain ⟨mb, hmb1, hmb2⟩ := I.mod.blt
    refine ks_loadName_global hkind hks (Calls.loadGlobal_builtin (by rw [I.ok.glob]; exact I.mod.glob.keeps I.bk) (by rw [emg]; exact T.mgS) (by rw [I.ok.blt]; exact hmb1.keeps I.bk) ((hmb2 _ (by decide)).trans PyProof.Rows.Boot.super) ⟨rfl, ?_⟩)
    refine wpAny_loadName_free (c := cc) hkind hkc (by rw [eenv]; simp [List.lookup]) ⟨_, XK _ _ hcell, rfl⟩ ?_
    refine wpAny_loadName_local hkind hka hn hm0 ?_
    refine ks_wpAny_isType_cls hD1 hD2 ⟨rfl, ?_⟩
    refine ks_wpAny_call_super (C := C) hD1 hD2 ho rfl (fun c z => by cases z) (looks_mroIn XK T.sub) (fun h2 e2 k2 => ?_)
    have I2 : Inv X [] (startF N vs [some (.ref C)]) H { s with heap := h2, toks := s.toks + (ps.zip us).length } := I.kept (t' := s.toks + (ps.zip us).length) k2
    have XK2 : K.In h2 := XK.keeps k2
    have hx2 := k2 _ _ ho
    have II : PySem.W.InstAt h2 a ({ cls := .ref C, dict := none, data := .fields #[.ref t1, .none, .none, .none, .bool false, .none] } : Obj) C none := ⟨hx2, rfl, rfl, trivial⟩
    have hsup := T.init
    unfold ks_superIn at hsup
    rw [hcl] at hsup
    refine kxs_getMethod kxs_ValueError e2 (looks_opaque XK2 T.third) (l₀ := cdC.mro) (fun A Q E s k q => wpAny_bind ((looks_clsIn XK2 hcl) A _ E s k (wpAny_pure q))) rfl XK2 hsup (II.type.andThen (looks_subIn XK2 T.isB)) (ks_ne XK2 II hcl) (by decide) ?_
    -- the wrapper stands, pinned
    have k3 : ∀ b o, h2.get? b = some o → (h2.push (kxs_mw "ValueError.__init__" a)).get? b = some o := fun b o q => Heap.get?_push_of_some _ q
    have I3 : Inv X [] (startF N vs [some (.ref C)]) H { s with heap := h2.push (kxs_mw "ValueError.__init__" a), toks := s.toks + (ps.zip us).length + 1 } := I2.kept (t' := s.toks + (ps.zip us).length + 1) k3
    have hmw : (h2.push (kxs_mw "ValueError.__init__" a)).get? h2.objs.size = some (kxs_mw "ValueError.__init__" a) := Heap.get?_push_at rfl rfl
    have I4 : Inv X [(h2.objs.size, kxs_mw "ValueError.__init__" a)] (startF N vs [some (.ref C)]) H { s with heap := h2.push (kxs_mw "ValueError.__init__" a), toks := s.toks + (ps.zip us).length + 1 } := by
      refine I3.pins_of fun p hp => ?_
      obtain rfl : p = (h2.objs.size, kxs_mw "ValueError.__init__" a) := by simpa using hp
      exact ⟨hmw, I2.hok.fresh (Nat.le_refl _), Nat.ne_of_gt I2.lt, I2.nofs (Nat.le_refl _), fun v z => by cases z⟩
    have hargs := hta.run p3 _ _ _ _ _ I4 hq
    have hst' := hst X.env
    rw [hst'] at hargs ⊢
    refine kxs_callWith (i := "ValueError.__init__") (x := a) (by show (false || (backTo p3 (starEach es X.env)).any (·.1)) = false; rw [hplain]; rfl) (PySem.Calls.evalArgs_plain (thn hargs fun us2 s2 hh => ?_))
    obtain ⟨vs2, H2, J, rv2, hlen2, hea2, hnx⟩ := hh
    obtain ⟨hu2, _⟩ := J.pin (h2.objs.size, kxs_mw "ValueError.__init__" a) (List.mem_append_right _ (by simp))
    refine ⟨hu2, ?_⟩
    obtain ⟨nm, q, N', bs, bm, sn, sub, ab, col, dd, k0, k1, k2', k3', k5, hC, hbm⟩ := T.ox.cls
    obtain ⟨t3, ho3⟩ := exo_at J.hok hea2
    have XK4 : K.In s2.heap := by have := J.kIn; rw [eK] at this; exact this
    obtain ⟨hp4, g4, d4, tk4, os4⟩ := s2
    refine mw_call (XK4 _ _ hC) ho3 hu2 (by show us2.length ≤ sizeLine; rw [← rv2.length]; exact hlen2) fun h5 t5 k5 hx5 => ?_
    have J5 := J.write (t' := tk4) (x := a) (e := a) (o := exo a C none) (by rw [hea2]; exact True.intro) (.inl rfl) k5 ⟨_, hx5⟩ (exo_ok hx5)
    have eu : upd H2 a (exo a C none) = H2 := by
      funext b
      by_cases hb : b = a
      · rw [hb, upd_same, hea2]
      · rw [upd_ne hb]
    rw [eu] at J5
    have J6 : Inv X [] (startF N vs [some (.ref C)]) H2 { heap := h5, gens := g4, drawn := d4, toks := tk4, os := os4 } := J5.pins_of fun p hp => by cases hp
    exact wpAt_of_wpAny (ht.run [] _ _ _ _ J6 hnx)
  · cases fl with
    | ret u =>
      obtain ⟨v, σ', H', J, rv, q⟩ := hs
      exact fin J rv q
    | next =>
      obtain ⟨σ', H', J, q⟩ := hs
      exact fin (v := V.non) (u := Value.none) J rfl q
    | brk =>
      obtain ⟨_, _, _, q⟩ := hs
      exact False.elim q
    | cont =>
      obtain ⟨_, _, _, q⟩ := hs
      exact False.elim q
  · rw [exe] at hs
    rw [eP, ew]
    exact hs
end
end LX
/-! own exceptions that carry fields, caught and asked; defs called where one is handled -/
namespace LX
open PySem PySem.Spec PyProof.Rows L2 NdefX
/-- what an own exception class says -/
structure ExK (K : PySem.W.Frag) (D : Addr) : Prop where
  ox : OexC K D
  hg : PySem.W.findIn K (.ref D) "__getattribute__" = some (some (.builtin "BaseException.__getattribute__"))
  hk : PySem.W.findIn K (.ref D) "__getattr__" = some none
  hd : PySem.W.hasDictIn K D = true
  ha : PySem.W.findIn K (.ref D) "__class__" = some (some (.builtin "object.__class__"))
  hn : PySem.W.specialIn K (.builtin "object.__class__") "__get__" = some (some (.builtin "getset_descriptor.__get__"))
  ht : PySem.W.takesIn K (.builtin "object.__class__") = some true
  hm : PySem.W.mroIn K D (.type "object") = some true
section
variable {P : Program} {w : World} {K : PySem.W.Frag} {mg : Str → Option Value} {base : Heap}
theorem okN {x qual : Str} {st : Stmt} {f : Addr} {fd : FuncData} {N ps : List Str} {k : Nat} {sp : Sp} (F : Fun K x qual st f fd) (S : FnScope N ps (defScope st)) (len : ∀ vs H Q E, sp vs H Q E → vs.length = ps.length)
    (hbody : ∀ (cdv : Value) (A : Around) (outer : List Env) (s : Shared) (H : Hp) (vs : List V) (Q : VK) (E : XK), Room k (A.deeper (envOfC qual (defScope st) s.heap.objs.size f cdv)) → sp vs H Q E →
      ∃ t, PSs (cxOf (L2N.CX P w) P w K mg base N qual (defScope st) f cdv A outer s H E) (defBody st) t ∧ t { nx := fun _ H' => Q .non H', rt := Q } (L2.start N vs) H) : FnOk P w K mg base (L2N.CX P w) (k + 1) f fd ps sp := by
  obtain ⟨oc, od, kV, doc, pm, an, cdv, ct, osl, rfl, lk, hcd⟩ := F.ex
  exact fn_of lk hcd S len fun A outer s H vs Q E hr hsp => hbody cdv A outer s H vs Q E hr hsp
end
section
variable {X : Cx} {o e : Expr} {es : List Expr} {to te : TE} {ta : TA} {f : Str} {p p' p1 p2 pos : Pos}
theorem pmk_x {CX : CXT} {x : Str} {C fI : Addr} {k : Nat} {fd : FuncData} {ps : List Str} {sp : Sp} (T : OexC X.K C) (iC : PySem.W.findIn X.K (.ref C) "__init__" = some (some (.ref fI)) ∧ PySem.W.typeIn X.K (.ref fI) = some (.type "function"))
    (F1 : FnOk X.prog X.w X.K X.mg X.base CX k fI fd ps sp) (hr : Room (k + 1) X.A) (hb : Binds X.K fd ps []) (hx : Passes CX X (fun _ _ _ => False)) (hg : Gl X x) (hm : X.mg x = some (.ref C)) (ha : PA X (e :: es) ta)
    (hdb : (x == ("__debug__" : Str)) = false := by decide) (he : starEach (e :: es) X.env = (false, eval e X.env) :: starEach es X.env := by rfl) (hpl : (backTo pos (starEach es X.env)).any (·.1) = false := by rfl) :
    L2N.PMk X (.Call (.Name x p) (e :: es) [] pos) (tMkO C sp [] ta) := by
  obtain ⟨iC, tI⟩ := iC
  intro pins s σ H Q I h
  obtain ⟨nm, q, N, bs, bm, sn, sub, ab, col, dd, k0, k1, k2, k3, k5, hC, hbm⟩ := T.cls
  refine wpAny_Call_Name_kw (ld_glob I hg hm ?_ hdb)
  refine PySem.W.callWith_K (h₀ := X.base) I.ok.mod.kin T.kC (thn (ha.run pos pins s σ H _ I h) fun us s1 ⟨vs, H1, I1, r1, hz, q1⟩ => ⟨I1.kIn, ?_⟩) he hpl
  show wpAny _ _ (call (.ref C) us) _ _ _
  obtain ⟨hp, g, dr, tk, os⟩ := s1
  have hsz : hp.objs.size ≤ hp.objs.size + 1 := Nat.le_succ _
  have hn : H1 (hp.objs.size + 1) = none := I1.hok.fresh hsz
  have hq := q1 (hp.objs.size + 1) hn
  rw [List.append_nil] at hq
  have kk : ∀ b o, hp.get? b = some o → ((hp.push (PySem.W.kdv_tup us)).push (PySem.HandSPX.excO C hp.objs.size)).get? b = some o := fun b o e => Heap.get?_push_of_some _ (Heap.get?_push_of_some _ e)
  have hget : ((hp.push (PySem.W.kdv_tup us)).push (PySem.HandSPX.excO C hp.objs.size)).get? (hp.objs.size + 1) = some (PySem.HandSPX.excO C hp.objs.size) := by heap_get
  have I2 : Inv X pins σ (upd H1 (hp.objs.size + 1) (exo (hp.objs.size + 1) C none)) ⟨(hp.push (PySem.W.kdv_tup us)).push (PySem.HandSPX.excO C hp.objs.size), g, dr, tk, os⟩ :=
    I1.laid (t' := tk) (a := hp.objs.size + 1) (o := exo (hp.objs.size + 1) C none) (h' := (hp.push (PySem.W.kdv_tup us)).push (PySem.HandSPX.excO C hp.objs.size)) kk hsz (exo_ok hget)
  have r2 : Vals (V.ref (hp.objs.size + 1) :: vs) (Value.ref (hp.objs.size + 1) :: us) := .cons rfl r1
  have hl : (Value.ref (hp.objs.size + 1) :: us).length = ps.length := by
    have e := r2.length
    rw [F1.len _ _ _ _ hq] at e
    exact e.symm
  have hus : us.length ≤ sizeLine := by
    rw [← Paired.length r1, sizeLine_eq]
    omega
  have hb1 := hb ⟨(hp.push (PySem.W.kdv_tup us)).push (PySem.HandSPX.excO C hp.objs.size), g, dr, tk, os⟩ (Value.ref (hp.objs.size + 1) :: us) I2.kIn (by rw [List.append_nil]; exact hl)
  rw [List.append_nil] at hb1
  refine wpAny_call (PySem.HandSPX.call_own F.excBase_ValueError (fun Y => PySem.HandSPX.refsVE_contains Y bm hbm) (I1.kIn _ _ hC) (PySem.W.looks_findIn I1.kIn iC) (fun self => PySem.W.bind_fn I1.kIn self tI) hus
    (codeAny_mono (F1.run _ X.stack _ _ ⟨Value.ref (hp.objs.size + 1) :: us, []⟩ (Value.ref (hp.objs.size + 1) :: us) _ _ (fun _ _ _ => False) (hr.make C us []) (I2.env0.make C us []) hb1 r2 hq) fun r s' hq' => ?_))
  cases r with
  | error er => exact hx pins σ _ _ er s' I2 hq'
  | ok fl =>
    cases fl with
    | ret u =>
      obtain ⟨v, H2, os2, bare2, un2, hok2, rv, ev, d, fs, ea, ed, hd1, q2⟩ := hq'
      subst ev
      obtain ⟨h2, g2, d2, t2, os'⟩ := s'
      obtain ⟨t0, G, J, kG, ge, hoe, na⟩ := mk_end0 (d2 := d2) (t2 := t2) I1 hsz kk un2 hok2 os2 bare2 ea ed hd1
      exact ⟨rv, _, _, _, ⟨G, g2, d2, t2, os'⟩, _, .ref C, some d, rfl, J, kG, ge, hoe, ⟨rfl, rfl, fun vs e => by cases e; rfl⟩, rfl, rfl, na, rfl, bare2, raises_own T.exC T.tyC, q2⟩
    | next => exact False.elim hq'
    | brk => exact False.elim hq'
    | cont => exact False.elim hq'
end
/-! ### calls within a try -/
section
variable {X : Cx} {CX : CXT} {k : Nat} {f C : Addr} {fd : FuncData} {ps : List Str} {sp : Sp} {E : L2.St → XK} {x m : Str} {p pos apos : Pos} {e o : Expr} {es : List Expr} {ta : TE} {t : TA}
theorem pe_methAt {pl : Sem Bool} (he : PE X o ta) (c : Cls X.K C) (hm : Meth X.K C m f) (F : FnOk X.prog X.w X.K X.mg X.base CX k f fd ps sp) (hr : Room k X.A) (hb : Binds X.K fd ps []) (hx : ∀ σ, PassesAt CX X σ (E σ)) (ha : PA X (e :: es) t)
    (hst : starEach (e :: es) X.env = (false, eval e X.env) :: starEach es X.env := by rfl) (hpl : (backTo pos (starEach es X.env)).any (·.1) = false := by rfl)
    (ht : eval (.Call (.Attribute o m apos) (e :: es) [] pos) X.env = (do
      let ov ← eval o X.env
      standAt apos.atName
      let (f, first) ← holding [ov] (getMethod ov m pl)
      callWith pos f first (backTo pos (starEach (e :: es) X.env)) (backToKw pos (keywordEach [] X.env))) := by rfl) :
    PE X (.Call (.Attribute o m apos) (e :: es) [] pos) (L2H.tMethH C m sp E ta t) := by
  refine ⟨fun pins s σ H Q I h => ?_⟩
  refine PySem.W.methodCall_KW (pl := pl) (thn (he.run pins s σ H _ I h) fun u s1 ⟨x, H1, I1, rx, a, dx, fs, ex, ea, l, q⟩ => ?_) ht
  subst ex
  obtain rfl : u = Value.ref a := rx
  refine getmeth_ok I1 ea c hm l ?_
  refine PySem.W.callWith_K (first := [.ref a]) (h₀ := X.base) I.ok.mod.kin hm.kp (thn (ha.run pos pins s1 σ H1 _ I1 q) fun us s2 ⟨vs, H2, I2, r, q2⟩ => ⟨I2.kIn, ?_⟩) hst hpl
  exact run_fnS (us := .ref a :: us) (vs := .ref a :: vs) F hr hb (hx σ) I2 (.cons rfl r) q2
theorem pe_methAt0 {pl : Sem Bool} (he : PE X o ta) (c : Cls X.K C) (hm : Meth X.K C m f) (F : FnOk X.prog X.w X.K X.mg X.base CX k f fd ps sp) (hr : Room k X.A) (hb : Binds X.K fd ps []) (hx : ∀ σ, PassesAt CX X σ (E σ))
    (ht : eval (.Call (.Attribute o m apos) [] [] pos) X.env = (do
      let ov ← eval o X.env
      standAt apos.atName
      let (f, first) ← holding [ov] (getMethod ov m pl)
      callWith pos f first (backTo pos (starEach [] X.env)) (backToKw pos (keywordEach [] X.env))) := by rfl) :
    PE X (.Call (.Attribute o m apos) [] [] pos) (L2H.tMethH C m sp E ta tNil) := by
  refine ⟨fun pins s σ H Q I h => ?_⟩
  refine PySem.W.methodCall_KW (pl := pl) (thn (he.run pins s σ H _ I h) fun u s1 ⟨x, H1, I1, rx, a, dx, fs, ex, ea, l, q⟩ => ?_) ht
  subst ex
  obtain rfl : u = Value.ref a := rx
  refine getmeth_ok I1 ea c hm l ?_
  exact PySem.W.callWith_K0 (first := [.ref a]) I1.kIn hm.kp (run_fnS (us := [.ref a]) (vs := [.ref a]) F hr hb (hx σ) I1 (.cons rfl .nil) q)
end
theorem pass0At {X : Cx} {E : L2.St → XK} : ∀ σ, PassesAt CX0 X σ (E σ) := fun _ _ _ _ _ _ _ h => h.elim
/-! ### asking the exception that is held -/
/-- what is known of a pinned exception -/
structure PinE (cls : Value) (d : Option Addr) (oe : Obj) : Prop where
  z : L2N.Zn cls d oe
  f : ∃ vs, oe.data = .fields vs
def rIsP (K : PySem.W.Frag) (a : Addr) (cls : Value) (d : Option Addr) : List V → Hp → VK → Prop := fun xs H Q => ∃ (D : Addr) (c : V) (cv : Value) (b : Bool), cls = .ref D ∧ ExK K D ∧ xs = [.ref a, c] ∧ ClsV c cv ∧ PySem.W.kitOne K (.ref D) cv = some b ∧ (∀ dd, d = some dd → ∃ fs, H dd = some (.xd fs)) ∧ Q (.bl b) H
theorem call_isP {X : Cx} {a : Addr} {oe : Obj} {cls : Value} {d : Option Addr} (hp : (a, oe) ∈ X.pn) (Z : PinE cls d oe) : CallR X (.builtin "isinstance") (rIsP X.K a cls d) := by
  intro pins s σ H xs us Q I r h
  obtain ⟨D, c, cv, b, rfl, C, rfl, hcv, e, hdd, q⟩ := h
  cases r with
  | cons rx rr =>
    cases rr with
    | cons rt rr =>
      cases rr
      cases rx
      have ec := hcv.eq rt
      subst ec
      obtain ⟨hget, _⟩ := I.pin (a, oe) (List.mem_append_left _ hp)
      obtain ⟨vs, hv⟩ := Z.f
      have hz := Z.z.zc
      obtain ⟨cdD, hcD, _⟩ := PySem.W.any_some C.hd
      cases d with
      | none =>
        have J : PySem.W.InstAt s.heap a oe D none := by
          obtain ⟨oc, od, oda, osl⟩ := oe
          obtain ⟨h1, h2⟩ := hz
          dsimp only at h1 h2 hv
          subst h1 h2 hv
          exact ⟨hget, rfl, rfl, trivial⟩
        exact PySem.W.kia_one (PySem.W.kitx_exc (by rw [hcD]; rfl) C.hg C.hk C.ox.exC C.ha C.hn C.ht C.hm) I.kIn J e (fun z => nomatch z) fun tk => ⟨.bl b, H, I.kept (t' := tk) fun _ _ z => z, rfl, q⟩
      | some dd =>
        obtain ⟨fs, hfs⟩ := hdd dd rfl
        have hx : ObjOk X.prog X.w H s.heap dd (.xd fs) := I.hok dd _ hfs
        obtain ⟨mA, hns, hr⟩ := hx
        obtain ⟨od, ho, hl⟩ := lookIn_ns hns
        have J : PySem.W.InstAt s.heap a oe D (some od) := ⟨hget, hz.1, by unfold PySem.W.notCls; rw [hv] <;> rfl, by rw [hz.2]; exact ho⟩
        exact PySem.W.kia_one (PySem.W.kitx_exc (by rw [hcD]; rfl) C.hg C.hk C.ox.exC C.ha C.hn C.ht C.hm) I.kIn J e (fun z => nomatch z) fun tk => ⟨.bl b, H, I.kept (t' := tk) fun _ _ z => z, rfl, q⟩
/-- field f of the exception held -/
def tXfP (K : PySem.W.Frag) (a : Addr) (cls : Value) (d : Option Addr) (f : Str) (te : TE) : TE := fun σ H Q => te σ H fun x H1 => x = .ref a ∧ ∃ (C dd : Addr) (fs : List (Str × V)) (v : V), cls = .ref C ∧ ExK K C ∧ PySem.W.findIn K (.ref C) f = some none ∧ d = some dd ∧ H1 dd = some (.xd fs) ∧ fs.lookup f = some v ∧ Q v H1
theorem pe_xfP {X : Cx} {a : Addr} {oe : Obj} {cls : Value} {d : Option Addr} {e : Expr} {te : TE} {pos : Pos} {n : Str} (hp : (a, oe) ∈ X.pn) (Z : PinE cls d oe) (he : PE X e te) (hb : attributeBase e n X.env (eval e X.env) = eval e X.env := by rfl) :
    PE X (.Attribute e n pos) (tXfP X.K a cls d n te) := by
  refine ⟨fun pins s σ H Q I h => ?_⟩
  refine attr_of hb (thn (he.run pins s σ H _ I h) fun u s1 hh => ?_)
  obtain ⟨x, H1, I1, rx, ex, C, dd, fs, v, ec, T, hno, ed, ea, l, q⟩ := hh
  subst ex
  obtain rfl : u = Value.ref a := rx
  subst ec
  subst ed
  have hz := Z.z.zc
  obtain ⟨ha, _⟩ := I1.pin (a, oe) (List.mem_append_left _ hp)
  obtain ⟨vs, hd⟩ := Z.f
  have hx : ObjOk X.prog X.w H1 s1.heap dd (.xd fs) := I1.hok dd _ ea
  obtain ⟨mA, hns, hr⟩ := hx
  obtain ⟨od, ho, hl⟩ := lookIn_ns hns
  obtain ⟨u, hu, ru⟩ := RelO.some_of (v := v) (o := mA n) (by rw [← l]; exact hr n)
  have J : PySem.W.InstAt s1.heap a oe C (some od) := ⟨ha, hz.1, by unfold PySem.W.notCls; rw [hd] <;> rfl, by rw [hz.2]; exact ho⟩
  exact HandSPX.exc_get I1.kIn J T.hg T.hk T.ox.exC (PySem.W.findObj_own T.hd hno rfl (by rw [hl, hu])) (handed_of ru) ⟨v, H1, I1.tok _, ru, q⟩
/-! ### defs called where an exception is handled, that may know it -/
abbrev SpP := Addr → Value → Option Addr → Sp
structure FnHP (P : Program) (w : World) (K : PySem.W.Frag) (mg : Str → Option Value) (base : Heap) (CX : CXT) (k : Nat) (f : Addr) (fd : FuncData) (ps : List Str) (sp : SpP) : Prop where
  len : ∀ a cls d vs H Q E, sp a cls d vs H Q E → vs.length = ps.length
  run : ∀ (A : Around) (outer : List Env) (s : Shared) (H : Hp) (args : Args) (us : List Value) (vs : List V) (Q : VK) (E : XK) (p : Addr × Obj) (cls : Value) (d : Option Addr), L2H.RoomH k A → L2H.Hot1 A p → PinE cls d p.2 → L2H.PinOk outer H s p → Env0 P w K mg base A outer s H → BindsTo s fd args (ps.zip us) → Vals vs us → sp p.1 cls d vs H Q E →
    codeAny (model P w) A (.call (.ref f) args) (CR CX outer P w H s Q E) s
theorem fn_ofHP {CX : CXT} {P : Program} {w : World} {K : PySem.W.Frag} {mg : Str → Option Value} {base : Heap} {k : Nat} {f : Addr} {name qual : Str} {params : Arguments} {body : List Stmt} {scope : Scope} {dV kV doc pm cdv ct oc : Value} {an od : Option Addr}
    {osl : Array (Option Value)} {N ps : List Str} {sp : SpP} (lk : K.lookup f = some ⟨oc, od, .func (PySem.W.fnOf name qual params body scope dV kV doc pm an cdv ct), osl⟩) (hcd : PySem.W.codeIn K cdv qual = true) (S : FnScope N ps scope)
    (len : ∀ a cls d vs H Q E, sp a cls d vs H Q E → vs.length = ps.length)
    (hbody : ∀ (A : Around) (outer : List Env) (s : Shared) (H : Hp) (vs : List V) (Q : VK) (E : XK) (p : Addr × Obj) (cls : Value) (d : Option Addr), L2H.Hot1 A p → PinE cls d p.2 → L2H.RoomH k (A.deeper (envOfC qual scope s.heap.objs.size f cdv)) → sp p.1 cls d vs H Q E →
      ∃ t, PSs (L2H.cxH CX P w K mg base N qual scope f cdv A outer s H E p) body t ∧ t { nx := fun _ H' => Q .non H', rt := Q } (L2.start N vs) H) :
    FnHP P w K mg base CX (k + 1) f (PySem.W.fnOf name qual params body scope dV kV doc pm an cdv ct) ps sp := by
  refine ⟨len, fun A outer s H args us vs Q E p cls d hr hot Z hpin e0 hb r hsp => ?_⟩
  have hl := len _ _ _ _ _ _ _ hsp
  have KX : K.In s.heap := e0.mod.kin.keeps fun b o e => (e0.bs b o e).1
  have lim : s.heap.NoLimit := e0.mod.nolimit.keeps fun b o e => (e0.bs b o e).1
  have hkind : ∀ y ∈ ps.zip us, scope.names.lookup y.1 = some .local ∨ (scope.names.lookup y.1 = some .cell ∧ ((cellsFrom (s.heap.objs.size + 1) scope.names []).lookup y.1).isSome = true) := fun ⟨n, v⟩ hy => by
    rcases S.par n (List.of_mem_zip hy).1 with q | q
    · exact .inl q
    · exact .inr ⟨q, PySem.W.cellsFrom_some _ _ _ (.inl q)⟩
  refine codeAny_call_function hr.depth (KX _ _ lk) rfl S.co S.gen rfl (PySem.W.codeRec_of KX hcd) (hb _ _ _ _ ?_)
  refine wpAny_newFunctionEnv_cells S.kind hkind fun env he s1 x => ?_
  subst he
  refine ⟨lim.keeps x.toInCall.keep, codeAny_func ?_⟩
  obtain ⟨t, ht, hq⟩ := hbody A outer s H vs Q E p cls d hot Z (hr.deeper _) hsp
  have I : Inv (L2H.cxH CX P w K mg base N qual scope f cdv A outer s H E p) [] (L2.start N vs) H s1 := L2H.inv_startH S hpin e0 hl r x
  refine wpAny_mono (ht.run [] s1 (L2.start N vs) H _ I hq) (fun fl s' hs => ?_) fun e s' hs => hs
  have fin : ∀ {σ' : L2.St} {H' : Hp} {v : V} {u : Value}, Inv (L2H.cxH CX P w K mg base N qual scope f cdv A outer s H E p) [] σ' H' s' → RelV v u → Q v H' → CE outer P w H s Q u s' :=
    fun {σ' H' v u} J rv q => ⟨v, H', J.os, J.bare, J.base, J.hok, rv, q⟩
  cases fl with
  | ret u =>
    obtain ⟨v, σ', H', J, rv, q⟩ := hs
    exact fin J rv q
  | next =>
    obtain ⟨σ', H', J, q⟩ := hs
    exact fin (v := V.non) (u := Value.none) J rfl q
  | brk =>
    obtain ⟨_, _, _, q⟩ := hs
    exact False.elim q
  | cont =>
    obtain ⟨_, _, _, q⟩ := hs
    exact False.elim q
theorem okHP {P : Program} {w : World} {K : PySem.W.Frag} {mg : Str → Option Value} {base : Heap} {x qual : Str} {st : Stmt} {f : Addr} {fd : FuncData} {N ps : List Str} {k : Nat} {sp : SpP} {CX : CXT} (F : Fun K x qual st f fd) (S : FnScope N ps (defScope st)) (len : ∀ a cls d vs H Q E, sp a cls d vs H Q E → vs.length = ps.length)
    (hbody : ∀ (cdv : Value) (A : Around) (outer : List Env) (s : Shared) (H : Hp) (vs : List V) (Q : VK) (E : XK) (p : Addr × Obj) (cls : Value) (d : Option Addr), L2H.Hot1 A p → PinE cls d p.2 → L2H.RoomH k (A.deeper (envOfC qual (defScope st) s.heap.objs.size f cdv)) → sp p.1 cls d vs H Q E →
      ∃ t, PSs (L2H.cxH CX P w K mg base N qual (defScope st) f cdv A outer s H E p) (defBody st) t ∧ t { nx := fun _ H' => Q .non H', rt := Q } (L2.start N vs) H) : FnHP P w K mg base CX (k + 1) f fd ps sp := by
  obtain ⟨oc, od, kV, doc, pm, an, cdv, ct, osl, rfl, lk, hcd⟩ := F.ex
  exact fn_ofHP lk hcd S len fun A outer s H vs Q E p cls d hot Z hr hsp => hbody cdv A outer s H vs Q E p cls d hot Z hr hsp
section
variable {X : Cx} {CX : CXT} {k : Nat} {f C : Addr} {fd : FuncData} {ps : List Str} {sp : SpP} {E : L2.St → XK} {x m : Str} {q pos apos : Pos} {e o : Expr} {es : List Expr} {ta : TE} {t : TA} {p : Addr × Obj} {cls : Value} {d : Option Addr}
theorem run_fnHP {pins : List (Addr × Obj)} {σ : L2.St} {H : Hp} {s : Shared} {Q : VK} {us : List Value} {vs : List V} (F : FnHP X.prog X.w X.K X.mg X.base CX k f fd ps sp) (hr : L2H.RoomH k X.A) (hot : L2H.Hot1 X.A p) (Z : PinE cls d p.2) (hp : p ∈ X.pn) (hb : Binds X.K fd ps []) (hx : PassesAt CX X σ (E σ))
    (I : Inv X pins σ H s) (r : Vals vs us) (h : sp p.1 cls d vs H Q (E σ)) : wpAny (model X.prog X.w) X.A (call (.ref f) us) (EP X pins σ Q) X.xe s := by
  have hl : us.length = ps.length := by rw [← r.length]; exact F.len _ _ _ _ _ _ _ h
  have b := hb s us I.kIn (by rw [List.append_nil]; exact hl)
  rw [List.append_nil] at b
  have P1 := I.pin p (List.mem_append_left _ hp)
  have hpin : L2H.PinOk X.stack H s p := ⟨P1.1, P1.2.1, fun hm => (List.mem_cons.mp (I.stkSub p.1 hm)).elim P1.2.2.1 P1.2.2.2.1, P1.2.2.2.2⟩
  refine wpAny_call (codeAny_mono (F.run X.A X.stack s H ⟨us, []⟩ us vs Q (E σ) p cls d hr hot Z hpin I.env0 b r h) fun r s' hq => ?_)
  cases r with
  | error e => exact hx pins H s e s' I hq
  | ok fl =>
    cases fl with
    | ret u => exact I.after hq
    | next => exact False.elim hq
    | brk => exact False.elim hq
    | cont => exact False.elim hq
theorem pe_callHP {a : Addr} {oe : Obj} (F : FnHP X.prog X.w X.K X.mg X.base CX k f fd ps sp) (hr : L2H.RoomH k X.A) (hot : L2H.Hot1 X.A (a, oe)) (Z : PinE cls d oe) (hp : (a, oe) ∈ X.pn) (hg : Gl X x) (hm : X.mg x = some (.ref f)) (hk : PySem.W.keepIn X.K (.ref f) = true) (hb : Binds X.K fd ps []) (hx : ∀ σ, PassesAt CX X σ (E σ))
    (ha : PA X (e :: es) t) (hdb : (x == ("__debug__" : Str)) = false := by decide) (he : starEach (e :: es) X.env = (false, eval e X.env) :: starEach es X.env := by rfl) (hpl : (backTo pos (starEach es X.env)).any (·.1) = false := by rfl) :
    PE X (.Call (.Name x q) (e :: es) [] pos) (tCallS (sp a cls d) E t) := by
  refine ⟨fun pins s σ H Q I h => ?_⟩
  refine wpAny_Call_Name_kw (ld_glob I hg hm ?_ hdb)
  refine PySem.W.callWith_K (h₀ := X.base) I.ok.mod.kin hk (thn (ha.run pos pins s σ H _ I h) fun us s1 ⟨vs, H1, I1, r, q⟩ => ⟨I1.kIn, ?_⟩) he hpl
  exact run_fnHP (p := (a, oe)) F hr hot Z hp hb (hx σ) I1 r q
end
theorem suite_hot {X : Cx} {a : Addr} {oe : Obj} {cls : Value} {d : Option Addr} {pn : List (Addr × Obj)} (Z : PinE cls d oe) : L2H.Hot1 (X.suite a ((a, oe) :: pn)).A (a, oe) := by
  obtain ⟨vs, hv⟩ := Z.f
  exact ⟨rfl, vs, hv, Z.z.2.2 vs hv⟩
theorem huH_of {A : Around} {k : Nat} (hr : L2H.RoomH k A) : A.units + 64 < cLine := by have := hr.un; omega
theorem hu1H_of {A : Around} {k : Nat} (hr : L2H.RoomH k A) : A.units + 1 < cLine := by have := hr.un; omega
theorem roomS {X : Cx} {k : Nat} {a : Addr} {pn : List (Addr × Obj)} (hr : Room k X.A) : L2H.RoomH k (X.suite a pn).A := ⟨hr.dp, hr.un⟩
theorem takes0N {X : Cx} : L2N.Takes X (fun _ _ _ _ => False) := fun _ _ x => by
  obtain ⟨_, _, _, _, _, _, _, _, _, _, _, _, _, _, _, _, z⟩ := x
  exact z.elim
/-! ### an own exception with one field -/
def StrOk : V → Prop
  | .int i => i.natAbs.log2 < 1920
  | .str _ => True
  | _ => False
def sp_exc1 (C : Addr) (f : Str) : Sp := fun vs H Q _ => ∃ (a : Addr) (x : V), vs = [.ref a, x] ∧ StrOk x ∧ H a = some (exo a C none) ∧ ∀ dx, H dx = none → dx ≠ a → Q .non (L2.upd (L2.upd H dx (exd dx [(f, x)])) a (exo a C (some dx)))
theorem exc1_go {x : V} {H : Hp} {Q : VK} (hx : StrOk x) (h : ∀ z, Q (.str z) H) : rStrU [x] H Q := by
  cases x with
  | int i => exact ⟨hx, h _⟩
  | str z => exact h _
  | _ => exact hx.elim
theorem exc1_mk {C : Addr} {f : Str} {x : V} {H : Hp} {Q : XK} {E : XK} (hx : StrOk x) (h : ∀ d, H d = none → Q (.ref C) (some d) (L2.upd H d (.xd [(f, x)]))) :
    [x].length ≤ 1000 ∧ ∀ a, H a = none → sp_exc1 C f (.ref a :: ([x] ++ [])) (L2.upd H a (exo a C none))
      (fun v H2 => v = .non ∧ ∃ (d : Addr) (fs : List (Str × V)), H2 a = some (exo a C (some d)) ∧ H2 d = some (exd d fs) ∧ H d = none ∧ Q (.ref C) (some d) (L2.upd (del H2 a) d (.xd fs))) E := by
  refine ⟨(by show 1 ≤ 1000; decide), fun a ha => ⟨a, x, rfl, hx, upd_same, fun dx h1 h2 => ⟨rfl, dx, _, upd_same, by rw [upd_ne h2]; exact upd_same, by rw [upd_ne h2] at h1; exact h1, ?_⟩⟩⟩
  have e : L2.upd (del (L2.upd (L2.upd (L2.upd H a (exo a C none)) dx (exd dx [(f, x)])) a (exo a C (some dx))) a) dx (.xd [(f, x)]) = L2.upd H dx (.xd [(f, x)]) := by
    funext b
    by_cases hb : b = dx
    · subst hb; rw [upd_same, upd_same]
    · rw [upd_ne hb, upd_ne hb]
      by_cases hba : b = a
      · subst hba; rw [del_same, ha]
      · rw [del_ne hba, upd_ne hba, upd_ne hb, upd_ne hba]
  rw [e]
  exact h dx (by rw [upd_ne h2] at h1; exact h1)
/-! ### rules with the law's own K, for a try's body and suite -/
section
variable {X : Cx} {K : PySem.W.Frag}
theorem pe_bmK {T name id : String} {r : V → List V → Hp → VK → Prop} {o e : Expr} {es : List Expr} {apos cpos : Pos} {to : TE} {t : TA} (eK : X.K = K) (pa : PlainAttrs T) (slot : Slot T name id) (hty : typeOf (.builtin id) = pure (.type "method_descriptor")) (hm : MtR X id r) (ho : PE X o to) (ha : PA X (e :: es) t)
    (hbase : attributeBase o name X.env (eval o X.env) = eval o X.env := by rfl)
    (hfew : ((backTo cpos (starEach (e :: es) X.env)).all (fun x => !x.1) && (backToKw cpos (keywordEach [] X.env)).all (fun x => x.1.isSome)
      && decide ((e :: es).length + ([] : List Keyword).length + (if ([] : List Keyword).isEmpty then 0 else 1) < 30)) = true := by rfl)
    (hline : (apos.endLine == cpos.line) = true := by rfl) (hs : starEach (e :: es) X.env = (false, eval e X.env) :: starEach es X.env := by rfl) (hplain : (backTo cpos (starEach es X.env)).any (·.1) = false := by rfl) :
    PE X (.Call (.Attribute o name apos) (e :: es) [] cpos) (tBM K T r to t) := by subst eK; exact pe_bm pa slot hty hm ho ha hbase hfew hline hs hplain
theorem call_isiK (eK : X.K = K) : CallR X (.builtin "isinstance") (rIsi K) := by subst eK; exact call_isi
theorem call_isPK {a : Addr} {oe : Obj} {cls : Value} {d : Option Addr} (eK : X.K = K) (hp : (a, oe) ∈ X.pn) (Z : PinE cls d oe) : CallR X (.builtin "isinstance") (rIsP K a cls d) := by subst eK; exact call_isP hp Z
theorem pe_xfPK {a : Addr} {oe : Obj} {cls : Value} {d : Option Addr} {e : Expr} {te : TE} {pos : Pos} {n : Str} (eK : X.K = K) (hp : (a, oe) ∈ X.pn) (Z : PinE cls d oe) (he : PE X e te) (hb : attributeBase e n X.env (eval e X.env) = eval e X.env := by rfl) :
    PE X (.Attribute e n pos) (tXfP K a cls d n te) := by subst eK; exact pe_xfP hp Z he hb
theorem pe_notTK {a : Expr} {ta : TE} {pos : Pos} (eK : X.K = K) (ha : PE X a ta) : PE X (.UnaryOp .Not a pos) (tNotT K ta) := by subst eK; exact pe_notT ha
end
def tTryAs (K : PySem.W.Frag) (c : Value) (i : Nat) (ts : Addr → Value → Option Addr → TS) (Wout : WX) (tb : WX → TS) : TS := fun D σ H => tb (wAs K c i ts Wout D) D σ H
theorem ps_tryAs {X : Cx} {K : PySem.W.Frag} {x n : Str} {c : Value} {i : Nat} {body suite : List Stmt} {b₀ : Stmt} {np pos pos' : Pos} {tb : WX → TS} {ts : Addr → Value → Option Addr → TS} {Wout : WX} (eK : X.K = K)
    (hs : X.stack = X.env :: X.outer) (hf : X.env.frame = some X.env.locals) (hN : X.N.Nodup) (hi : X.N[i]? = some n) (hln : X.env.kindOf n = some .local) (hc : Names X x c) (tk : L2N.Takes X Wout)
    (hb : ∀ (W : WX) (pn : List (Addr × Obj)) (xe : Value → Shared → Prop), L2N.Takes (X.tr pn xe) W → PassesOwn (model X.prog X.w) X.A X.env xe → PSs (X.tr pn xe) body (tb W))
    (hsu : ∀ (a : Addr) (oe : Obj) (cls : Value) (d : Option Addr) (pn : List (Addr × Obj)), L2N.Zn cls d oe → (∃ vs, oe.data = .fields vs) → PSs (X.suite a ((a, oe) :: pn)) (b₀ :: suite) (ts a cls d)) :
    PS X (.Try body [.ExceptHandler (some (.Name x np)) (some n) (b₀ :: suite) pos'] [] [] pos) (tTryAs K c i ts Wout tb) := by subst eK; exact L2N.ps_try_as hs hf hN hi hln hc tk hb hsu
theorem passF {X : Cx} : Passes (L2N.CX X.prog X.w) X (fun _ _ _ => False) := fun _ _ _ _ _ _ _ c => by
  obtain ⟨_, _, _, _, _, _, _, _, _, _, _, _, h⟩ := c
  exact h.elim
end LX
/-! a try with several clauses `except X as n`, clause by clause -/
namespace LX
open PySem PySem.Spec PyProof.Rows L2 NdefX
/-- the clauses hds take any exception that has landed, where wsh is kept -/
def HdlOk (X : Cx) (hds : List ExceptHandler) (wsh : Ends → WX) : Prop :=
  ∀ (pins : List (Addr × Obj)) (σ : L2.St) (H : Hp) (s0 s : Shared) (B : Heap) (x1 : Addr) (cls : Value) (d : Option Addr) (D : Ends), Inv X pins σ H s0 →
    (∀ b o, s0.heap.get? b = some o → b ∉ frs X.stack → B.get? b = some o) → s0.heap.UpToSlots s.heap → HandSPX.FlyingZ B (X.env :: X.outer) x1 (L2N.Zn cls d) s.heap → H x1 = none → s.os = s0.os → AllBare s.gens → wsh D cls d σ H →
    wpAny (model X.prog X.w) X.A (handleBy (.ref x1) X.env hds) (SP X pins D) X.xe s
section
variable {X : Cx} {Wout : WX}
theorem hdl_nil (hs : X.stack = X.env :: X.outer) (hf : X.env.frame = some X.env.locals) (tk : L2N.Takes X Wout) : HdlOk X [] fun _ => Wout := by
  intro pins σ H s0 s B x1 cls d D I nb up fl na os ag hw
  have keep := fl
  obtain ⟨_, _, _, ox, ws, T, _, _, e1, _, e2, e3, _⟩ := fl
  refine wpAny_handleBy_nil ?_
  unfold PySem.passOn
  refine wpAny_bind (wpAny_field e1 e2 e3 ?_)
  have nT : ¬ ((Value.ref T == Value.none) = true) := by simp
  rw [if_neg nT]
  have last : wpAny (model X.prog X.w) X.A (setFlight (.ref x1) X.env.frame) (fun _ u => wpAny (model X.prog X.w) X.A (throw (.ref x1) : Sem Flow) (SP X pins D) X.xe u) X.xe s := by
    rw [hf]
    refine HandSPX.setFlight_upZ keep fun g held more => wpAny_throw (tk _ _ ?_)
    refine ⟨x1, B, s0, pins, σ, H, cls, d, rfl, I, nb, up.trans more, Or.inr (Or.inr ?_), na, os, ag, hw⟩
    rw [hs]; exact held
  first
    | exact wpAny_bind (wpAny_pure (wpAny_bind last))
    | exact wpAny_bind last
theorem hdl_as {x n : Str} {c : Value} {i : Nat} {suite : List Stmt} {b₀ : Stmt} {np hpos : Pos} {hds : List ExceptHandler} {ts : Addr → Value → Option Addr → TS} {wr : Ends → WX} (hs : X.stack = X.env :: X.outer) (hf : X.env.frame = some X.env.locals)
    (hN : X.N.Nodup) (hi : X.N[i]? = some n) (hln : X.env.kindOf n = some .local) (hc : Names X x c)
    (hsu : ∀ (a : Addr) (oe : Obj) (cls : Value) (d : Option Addr) (pn : List (Addr × Obj)), L2N.Zn cls d oe → (∃ vs, oe.data = .fields vs) → PSs (X.suite a ((a, oe) :: pn)) (b₀ :: suite) (ts a cls d)) (r : HdlOk X hds wr) :
    HdlOk X (.ExceptHandler (some (.Name x np)) (some n) (b₀ :: suite) hpos :: hds) fun D => wAs X.K c i ts (wr D) D := by
  intro pins σ H s0 s B x1 cls d D I nb up fl na os ag hw
  obtain ⟨yes, hm, hy, hno⟩ := hw
  have hok := I.ok
  -- what stands where the exception has landed, in any such heap
  have stand : ∀ g : Heap, HandSPX.FlyingZ B (X.env :: X.outer) x1 (L2N.Zn cls d) g → s0.heap.UpToSlots g → ∃ ob, g.get? x1 = some ob ∧ L2N.Zn cls d ob ∧ (∃ vs, ob.data = .fields vs) ∧ Inv X pins σ H { s with heap := g } ∧ Inv (X.suite x1 ((x1, ob) :: (X.pn ++ pins))) [] σ H { s with heap := g } := fun g fg ug => by
    have Ig : Inv X pins σ H { s with heap := g } := I.landed nb fg.1 ug os ag
    obtain ⟨ob, vs, g1, g2, g3⟩ := fg.there
    have out : x1 ∉ frs (X.env :: X.outer) := fun m => by
      obtain ⟨_, o2, g4, bad⟩ := fg.2.2.1.mem m
      rw [g1] at g4
      cases g4
      exact bad _ g3
    have n1 : x1 ≠ X.env.locals := fun z => by
      refine out (List.mem_filterMap.mpr ⟨X.env, List.mem_cons_self, ?_⟩)
      rw [hf, z]
    have n2 : x1 ∉ X.fs := fun m => by
      obtain ⟨e, m1, m2⟩ := List.mem_filterMap.mp m
      exact out (List.mem_filterMap.mpr ⟨e, List.mem_cons_of_mem _ m1, m2⟩)
    exact ⟨ob, g1, g2, ⟨vs, g3⟩, Ig, Ig.suite g1 g3 na n1 n2⟩
  obtain ⟨ob, o1, o2, _, I3, S3⟩ := stand s.heap fl up
  have ty : PySem.W.Looks (model X.prog X.w) s.heap (typeOf (.ref x1)) cls := fun A' Q' E' u ku q => wpAny_typeOf_ref (ku _ _ o1) (by rw [o2.1]; exact q)
  have asks := PySem.W.exm_one (M := model X.prog X.w) I3.kIn ty hm
  have cl : ∀ {Q' : Value → Shared → Prop} {E' : Value → Shared → Prop}, Q' c s → wpAny (model X.prog X.w) (X.A.mark (some (.ref x1))) (eval (.Name x np) X.env) Q' E' s := fun {Q' E'} q => by
    obtain ⟨c1, c2, c3⟩ := hc
    rcases c3 with c3 | ⟨c3, c4, c5⟩
    · exact ld_glob (X := X.suite x1 ((x1, ob) :: (X.pn ++ pins))) S3 c1 c3 q c2
    · exact ld_blt (X := X.suite x1 ((x1, ob) :: (X.pn ++ pins))) S3 c1 c3 c4 q c5 c2
  refine wpAny_handleBy_cons (codeAny_handlers_test (cl (asks.here ?_))) (fun z => by cases z)
  by_cases hyes : yes = true
  · subst hyes
    refine codeAny_handlers_suite_as (HandSPX.lands_againZ fl fun g fg more => ?_)
    obtain ⟨o4, _, z4, f4, _, S4⟩ := stand g fg (up.trans more)
    refine store_ok (X := X.suite x1 ((x1, o4) :: (X.pn ++ pins))) (v := .ref x1) S4 hN hi (Or.inl hln) rfl (fun u U => ?_) (Or.inr hln)
    refine wpAny_mono ((hsu x1 o4 cls d (X.pn ++ pins) z4 f4).run [] u _ H _ U (hy rfl x1 na)) (fun fl' u' done => ?_) (fun _ _ z => z.elim)
    have behind : ∀ {σ' : L2.St} {H' : Hp} {R : Shared → Prop}, Inv (X.suite x1 ((x1, o4) :: (X.pn ++ pins))) [] σ' H' u' → (∀ v, Inv X pins (σ'.set i none) H' v → R v) →
        wpAny (model X.prog X.w) X.A (do bindName X.env n .none; unbindBehindTheSuite X.env n hpos) (fun _ v => R v) X.xe u' := fun U' k => gone_ok (U'.unsuite hok) hN hi hln k
    cases fl' with
    | next => obtain ⟨_, _, U', q⟩ := done; exact behind U' fun v V => ⟨_, _, V, q⟩
    | brk => obtain ⟨_, _, U', q⟩ := done; exact behind U' fun v V => ⟨_, _, V, q⟩
    | cont => obtain ⟨_, _, U', q⟩ := done; exact behind U' fun v V => ⟨_, _, V, q⟩
    | ret w => obtain ⟨_, _, _, U', rw', q⟩ := done; exact behind U' fun v V => ⟨_, _, _, V, rw', q⟩
  · have e : yes = false := by simpa using hyes
    subst e
    exact r pins σ H s0 s B x1 cls d D I nb up fl na os ag (hno rfl)
theorem ps_tryH {body : List Stmt} {h₀ : ExceptHandler} {hds : List ExceptHandler} {pos : Pos} {tb : WX → TS} {wsh : Ends → WX} (hs : X.stack = X.env :: X.outer) (hf : X.env.frame = some X.env.locals)
    (hb : ∀ (W : WX) (pn : List (Addr × Obj)) (xe : Value → Shared → Prop), L2N.Takes (X.tr pn xe) W → PassesOwn (model X.prog X.w) X.A X.env xe → PSs (X.tr pn xe) body (tb W)) (hh : HdlOk X (h₀ :: hds) wsh) :
    PS X (.Try body (h₀ :: hds) [] [] pos) (fun D σ H => tb (wsh D) D σ H) := by
  refine ⟨fun pins s σ H D I h => wpAny_Try_except ?_⟩
  have hok := I.ok
  have fr : X.A.frames = some (X.env :: X.outer) := by rw [hok.frames, hs]
  let away : Value → Shared → Prop := fun v t => wpAny (model X.prog X.w) X.A (noteFrame v X.env) (fun _ t2 => wpAny (model X.prog X.w) X.A (setFlight v none) (fun _ t3 => wpAny (model X.prog X.w) X.A (handleBy v X.env (h₀ :: hds)) (SP X pins D) X.xe t3) X.xe t2) X.xe t
  have tk : L2N.Takes (X.tr (X.pn ++ pins) away) (wsh D) := by
    rintro v t ⟨x1, B, s0, pins', σ', H', cls, d, rfl, I', nb, up, sky, na, os, ag, hw⟩
    have I0 : Inv X pins σ' H' s0 := I'.ofTry hok
    have sky : Sky B (X.env :: X.outer) x1 (L2N.Zn cls d) X.env.locals t.heap := by rw [← hs]; exact sky
    refine L2N.Sky.land L2N.Zn.steady fr hf sky fun g fg more => ?_
    exact hh pins σ' H' s0 { t with heap := g } B x1 cls d D I0 nb (up.trans more) fg na os ag hw
  refine wpAny_mono ((hb (wsh D) (X.pn ++ pins) away tk PassesOwn.looking).run [] s σ H D (I.toTry _) h) (fun f t q => ?_) (fun _ _ z => z)
  cases f with
  | next => obtain ⟨_, _, I', q⟩ := q; exact wpAny_execs_nil ⟨_, _, I'.ofTry hok, q⟩
  | brk => obtain ⟨_, _, I', q⟩ := q; exact ⟨_, _, I'.ofTry hok, q⟩
  | cont => obtain ⟨_, _, I', q⟩ := q; exact ⟨_, _, I'.ofTry hok, q⟩
  | ret v => obtain ⟨_, _, _, I', rv, q⟩ := q; exact ⟨_, _, _, I'.ofTry hok, rv, q⟩
end
/-! ### own exceptions with two fields, a text and an int -/
def sp_exc2 (C : Addr) (f g : Str) : Sp := fun vs H Q _ => ∃ (a : Addr) (z : Str) (i : Int), vs = [.ref a, .str z, .int i] ∧ z.length ≤ 1000 ∧ i.natAbs.log2 < 1920 ∧ H a = some (exo a C none) ∧
  ∀ dx, H dx = none → dx ≠ a → Q .non (L2.upd (L2.upd (L2.upd H dx (exd dx [(f, .str z)])) a (exo a C (some dx))) dx (exd dx [(g, .int i), (f, .str z)]))
theorem str_len (x y : Str) : (x ++ y).length = x.length + y.length := by
  show (x.cps ++ y.cps).size = x.cps.size + y.cps.size
  simp
theorem exc2_l1 {z : Str} (hz : z.length ≤ 1000) : z.length + (T [32]).length ≤ sizeLine := by
  have : (T [32]).length = 1 := rfl
  rw [this, sizeLine_eq]; omega
theorem exc2_l2 {z : Str} {i : Int} (hz : z.length ≤ 1000) (hi : i.natAbs.log2 < 1920) : (z ++ T [32]).length + (PySem.Str.ofString (toString i)).length ≤ sizeLine := by
  have h1 := int_text_len_1921 hi
  have h2 : (T [32]).length = 1 := rfl
  rw [str_len, h2, sizeLine_eq]; omega
theorem exc2_mk {C : Addr} {f g : Str} {z : Str} {i : Int} {H : Hp} {Q : XK} {E : XK} (hz : z.length ≤ 1000) (hi : i.natAbs.log2 < 1920) (h : ∀ d, H d = none → Q (.ref C) (some d) (L2.upd H d (.xd [(g, .int i), (f, .str z)]))) :
    [V.str z, V.int i].length ≤ 1000 ∧ ∀ a, H a = none → sp_exc2 C f g (.ref a :: ([V.str z, V.int i] ++ [])) (L2.upd H a (exo a C none))
      (fun v H2 => v = .non ∧ ∃ (d : Addr) (fs : List (Str × V)), H2 a = some (exo a C (some d)) ∧ H2 d = some (exd d fs) ∧ H d = none ∧ Q (.ref C) (some d) (L2.upd (del H2 a) d (.xd fs))) E := by
  refine ⟨(by show 2 ≤ 1000; decide), fun a ha => ⟨a, z, i, rfl, hz, hi, upd_same, fun dx h1 h2 => ⟨rfl, dx, _, by rw [upd_ne (Ne.symm h2)]; exact upd_same, upd_same, by rw [upd_ne h2] at h1; exact h1, ?_⟩⟩⟩
  have e : L2.upd (del (L2.upd (L2.upd (L2.upd (L2.upd H a (exo a C none)) dx (exd dx [(f, .str z)])) a (exo a C (some dx))) dx (exd dx [(g, .int i), (f, .str z)])) a) dx (.xd [(g, .int i), (f, .str z)]) = L2.upd H dx (.xd [(g, .int i), (f, .str z)]) := by
    funext b
    by_cases hb : b = dx
    · subst hb; rw [upd_same, upd_same]
    · rw [upd_ne hb, upd_ne hb]
      by_cases hba : b = a
      · subst hba; rw [del_same, ha]
      · rw [del_ne hba, upd_ne hb, upd_ne hba, upd_ne hb, upd_ne hba]
  rw [e]
  exact h dx (by rw [upd_ne h2] at h1; exact h1)
end LX
namespace LX
open PySem PySem.Spec PyProof.Rows L2 NdefX
def top (i : Nat) : Stmt := PySem.Challenge.pw_saggar_k17_many_locals.main.body.getD i (.Pass ⟨0, 0, 0, 0⟩)
abbrev s_Oversized___init__ : Stmt := inClass (top 2) 0
abbrev N_Oversized___init__ : List Str := ["self", "limit"]
theorem ns_Oversized___init__ : NScope ["self", "limit", "__class__"] ["self", "limit"] ["__class__"] (defScope s_Oversized___init__) := nscope_by (by decide +kernel)
abbrev s_Twice___init__ : Stmt := inClass (top 4) 0
abbrev N_Twice___init__ : List Str := ["self", "name", "at"]
theorem ns_Twice___init__ : NScope ["self", "name", "at", "__class__"] ["self", "name", "at"] ["__class__"] (defScope s_Twice___init__) := nscope_by (by decide +kernel)
abbrev s_change_of : Stmt := top 10
abbrev N_change_of : List Str := ["op", "arg"]
theorem sc_change_of : FnScope N_change_of ["op", "arg"] (defScope s_change_of) := ⟨rfl, rfl, rfl, by decide +kernel, rfl, by decide +kernel, by decide +kernel⟩
abbrev s_places_behind : Stmt := top 11
abbrev N_places_behind : List Str := ["op", "arg", "at"]
theorem sc_places_behind : FnScope N_places_behind ["op", "arg", "at"] (defScope s_places_behind) := ⟨rfl, rfl, rfl, by decide +kernel, rfl, by decide +kernel, by decide +kernel⟩
abbrev s_Draft___init__ : Stmt := inClass (top 18) 0
abbrev N_Draft___init__ : List Str := ["self", "selector", "argc", "count", "stack", "code", "literals"]
theorem sc_Draft___init__ : FnScope N_Draft___init__ ["self", "selector", "argc", "count", "stack", "code", "literals"] (defScope s_Draft___init__) := ⟨rfl, rfl, rfl, by decide +kernel, rfl, by decide +kernel, by decide +kernel⟩
abbrev s_declared : Stmt := top 19
abbrev N_declared : List Str := ["params", "temps", "pairs", "names", "k", "name", "at"]
theorem sc_declared : FnScope N_declared ["params", "temps"] (defScope s_declared) := ⟨rfl, rfl, rfl, by decide +kernel, rfl, by decide +kernel, by decide +kernel⟩
abbrev s_Coder___init__ : Stmt := inClass (top 22) 0
abbrev N_Coder___init__ : List Str := ["self", "fields", "globals_known"]
theorem sc_Coder___init__ : FnScope N_Coder___init__ ["self", "fields", "globals_known"] (defScope s_Coder___init__) := ⟨rfl, rfl, rfl, by decide +kernel, rfl, by decide +kernel, by decide +kernel⟩
abbrev s_Coder_emit : Stmt := inClass (top 22) 1
abbrev N_Coder_emit : List Str := ["self", "op", "arg"]
theorem sc_Coder_emit : FnScope N_Coder_emit ["self", "op", "arg"] (defScope s_Coder_emit) := ⟨rfl, rfl, rfl, by decide +kernel, rfl, by decide +kernel, by decide +kernel⟩
abbrev s_Coder_here : Stmt := inClass (top 22) 2
abbrev N_Coder_here : List Str := ["self"]
theorem sc_Coder_here : FnScope N_Coder_here ["self"] (defScope s_Coder_here) := ⟨rfl, rfl, rfl, by decide +kernel, rfl, by decide +kernel, by decide +kernel⟩
abbrev s_Coder_aim : Stmt := inClass (top 22) 3
abbrev N_Coder_aim : List Str := ["self", "place"]
theorem sc_Coder_aim : FnScope N_Coder_aim ["self", "place"] (defScope s_Coder_aim) := ⟨rfl, rfl, rfl, by decide +kernel, rfl, by decide +kernel, by decide +kernel⟩
abbrev s_Coder_literal : Stmt := inClass (top 22) 4
abbrev N_Coder_literal : List Str := ["self", "literal"]
theorem sc_Coder_literal : FnScope N_Coder_literal ["self", "literal"] (defScope s_Coder_literal) := ⟨rfl, rfl, rfl, by decide +kernel, rfl, by decide +kernel, by decide +kernel⟩
abbrev s_Coder_name : Stmt := inClass (top 22) 6
abbrev N_Coder_name : List Str := ["self", "name", "at", "found"]
theorem sc_Coder_name : FnScope N_Coder_name ["self", "name", "at"] (defScope s_Coder_name) := ⟨rfl, rfl, rfl, by decide +kernel, rfl, by decide +kernel, by decide +kernel⟩
abbrev s_Coder_assign : Stmt := inClass (top 22) 7
abbrev N_Coder_assign : List Str := ["self", "name", "at", "found"]
theorem sc_Coder_assign : FnScope N_Coder_assign ["self", "name", "at"] (defScope s_Coder_assign) := ⟨rfl, rfl, rfl, by decide +kernel, rfl, by decide +kernel, by decide +kernel⟩
abbrev s_Coder_sequence : Stmt := inClass (top 22) 8
abbrev N_Coder_sequence : List Str := ["self", "statements", "in_method", "k", "statement"]
theorem sc_Coder_sequence : FnScope N_Coder_sequence ["self", "statements", "in_method"] (defScope s_Coder_sequence) := ⟨rfl, rfl, rfl, by decide +kernel, rfl, by decide +kernel, by decide +kernel⟩
abbrev s_Coder_message : Stmt := inClass (top 22) 12
abbrev N_Coder_message : List Str := ["self", "op", "selector", "args", "arg"]
theorem sc_Coder_message : FnScope N_Coder_message ["self", "op", "selector", "args"] (defScope s_Coder_message) := ⟨rfl, rfl, rfl, by decide +kernel, rfl, by decide +kernel, by decide +kernel⟩
abbrev s_Coder_send : Stmt := inClass (top 22) 13
abbrev N_Coder_send : List Str := ["self", "receiver", "selector", "args"]
theorem sc_Coder_send : FnScope N_Coder_send ["self", "receiver", "selector", "args"] (defScope s_Coder_send) := ⟨rfl, rfl, rfl, by decide +kernel, rfl, by decide +kernel, by decide +kernel⟩
abbrev s_Coder_block : Stmt := inClass (top 22) 14
abbrev N_Coder_block : List Str := ["self", "params", "temps", "statements", "names", "index", "behind"]
theorem sc_Coder_block : FnScope N_Coder_block ["self", "params", "temps", "statements"] (defScope s_Coder_block) := ⟨rfl, rfl, rfl, by decide +kernel, rfl, by decide +kernel, by decide +kernel⟩
abbrev s_Coder_expression : Stmt := inClass (top 22) 15
abbrev N_Coder_expression : List Str := ["self", "tree", "word"]
theorem sc_Coder_expression : FnScope N_Coder_expression ["self", "tree"] (defScope s_Coder_expression) := ⟨rfl, rfl, rfl, by decide +kernel, rfl, by decide +kernel, by decide +kernel⟩
abbrev s_greatest_height : Stmt := top 23
abbrev N_greatest_height : List Str := ["code", "start", "blocks", "known", "pending", "most", "at", "height", "following", "op", "arg"]
theorem sc_greatest_height : FnScope N_greatest_height ["code", "start", "blocks"] (defScope s_greatest_height) := ⟨rfl, rfl, rfl, by decide +kernel, rfl, by decide +kernel, by decide +kernel⟩
abbrev s_with_stacks : Stmt := top 24
abbrev N_with_stacks : List Str := ["code", "literals", "result", "blocks", "most", "done", "literal", "found"]
theorem sc_with_stacks : FnScope N_with_stacks ["code", "literals"] (defScope s_with_stacks) := ⟨rfl, rfl, rfl, by decide +kernel, rfl, by decide +kernel, by decide +kernel⟩
abbrev s_compile_method : Stmt := top 25
abbrev N_compile_method : List Str := ["tree", "fields", "globals_known", "coder", "names", "stack", "literals"]
theorem sc_compile_method : FnScope N_compile_method ["tree", "fields", "globals_known"] (defScope s_compile_method) := ⟨rfl, rfl, rfl, by decide +kernel, rfl, by decide +kernel, by decide +kernel⟩
abbrev s__law_cell : Stmt := top 27
abbrev N__law_cell : List Str := ["_law_script", "_law_k"]
theorem sc__law_cell : FnScope N__law_cell ["_law_script", "_law_k"] (defScope s__law_cell) := ⟨rfl, rfl, rfl, by decide +kernel, rfl, by decide +kernel, by decide +kernel⟩
abbrev s__law_told : Stmt := top 28
abbrev N__law_told : List Str := ["_law_tree", "e"]
theorem sc__law_told : FnScope N__law_told ["_law_tree"] (defScope s__law_told) := ⟨rfl, rfl, rfl, by decide +kernel, rfl, by decide +kernel, by decide +kernel⟩
abbrev s_law : Stmt := top 29
abbrev N_law : List Str := ["_law_script", "_law_cell_here", "_law_many", "_law_params", "_law_pairs", "_law_k", "_law_twice", "_law_at", "_law_names", "_law_selector", "_law_tree", "_law_block", "_law_found"]
theorem sc_law : FnScope N_law ["_law_script"] (defScope s_law) := ⟨rfl, rfl, rfl, by decide +kernel, rfl, by decide +kernel, by decide +kernel⟩
structure Wd (P : Program) (K : PySem.W.Frag) (mg : Str → Option Value) where
  n_int : mg "int" = none
  n_len : mg "len" = none
  n_list : mg "list" = none
  n_max : mg "max" = none
  n_range : mg "range" = none
  n_str : mg "str" = none
  n_tuple : mg "tuple" = none
  a_PUSHING : Addr
  g_PUSHING : mg "PUSHING" = some (.ref a_PUSHING)
  tp_PUSHING : ∀ H : Hp, SqT K H a_PUSHING [.str (T [108, 111, 99, 97, 108]), .str (T [111, 117, 116, 101, 114]), .str (T [102, 105, 101, 108, 100]), .str (T [108, 105, 116, 101, 114, 97, 108]), .str (T [103, 108, 111, 98, 97, 108]), .str (T [115, 101, 108, 102]), .str (T [110, 105, 108]), .str (T [116, 114, 117, 101]), .str (T [102, 97, 108, 115, 101]), .str (T [98, 108, 111, 99, 107]), .str (T [100, 117, 112])]
  a_SENDING : Addr
  g_SENDING : mg "SENDING" = some (.ref a_SENDING)
  tp_SENDING : ∀ H : Hp, SqT K H a_SENDING [.str (T [115, 101, 110, 100]), .str (T [115, 117, 112, 101, 114, 95, 115, 101, 110, 100])]
  a_ENDING : Addr
  g_ENDING : mg "ENDING" = some (.ref a_ENDING)
  tp_ENDING : ∀ H : Hp, SqT K H a_ENDING [.str (T [114, 101, 116, 117, 114, 110]), .str (T [108, 101, 97, 118, 101])]
  t_MOST_LOCALS : Tok
  g_MOST_LOCALS : mg "MOST_LOCALS" = some (.int (255) t_MOST_LOCALS)
  a_RESERVED : Addr
  g_RESERVED : mg "RESERVED" = some (.ref a_RESERVED)
  tp_RESERVED : ∀ H : Hp, SqT K H a_RESERVED [.str (T [110, 105, 108]), .str (T [116, 114, 117, 101]), .str (T [102, 97, 108, 115, 101]), .str (T [115, 101, 108, 102])]
  c_Oversized : Addr
  g_Oversized : mg "Oversized" = some (.ref c_Oversized)
  c_Twice : Addr
  g_Twice : mg "Twice" = some (.ref c_Twice)
  c_Draft : Addr
  g_Draft : mg "Draft" = some (.ref c_Draft)
  C_Draft : Cls K c_Draft
  na_Draft_selector : NoAttr K c_Draft "selector"
  na_Draft_argc : NoAttr K c_Draft "argc"
  na_Draft_locals : NoAttr K c_Draft "locals"
  na_Draft_stack : NoAttr K c_Draft "stack"
  na_Draft_code : NoAttr K c_Draft "code"
  na_Draft_literals : NoAttr K c_Draft "literals"
  c_Coder : Addr
  g_Coder : mg "Coder" = some (.ref c_Coder)
  C_Coder : Cls K c_Coder
  na_Coder_fields : NoAttr K c_Coder "fields"
  na_Coder_globals_known : NoAttr K c_Coder "globals_known"
  na_Coder_code : NoAttr K c_Coder "code"
  na_Coder_literals : NoAttr K c_Coder "literals"
  na_Coder_scopes : NoAttr K c_Coder "scopes"
  f_Oversized___init__ : Addr
  fd_Oversized___init__ : FuncData
  X_Oversized : OexC K c_Oversized
  i_Oversized : PySem.W.findIn K (.ref c_Oversized) "__init__" = some (some (.ref f_Oversized___init__)) ∧ PySem.W.typeIn K (.ref f_Oversized___init__) = some (.type "function")
  cc_Oversized : Addr
  cda_Oversized : Addr
  S_Oversized : SupTxt P K mg c_Oversized cda_Oversized cc_Oversized (defScope s_Oversized___init__)
  L_Oversized : ∃ oc od kV dc pm an ct osl, K.lookup f_Oversized___init__ = some ⟨oc, od, .func fd_Oversized___init__, osl⟩ ∧ fd_Oversized___init__ = PySem.W.fnX "__init__" "Oversized.__init__" (defArgs s_Oversized___init__) (defBody s_Oversized___init__) (defScope s_Oversized___init__) [("__class__", cc_Oversized)] .none kV dc pm an (.ref cda_Oversized) ct ∧ PySem.W.codeIn K (.ref cda_Oversized) "Oversized.__init__" = true
  E_Oversized : ExK K c_Oversized
  xn_Oversized_limit : PySem.W.findIn K (.ref c_Oversized) "limit" = some none
  b_Oversized___init__ : Binds K fd_Oversized___init__ ["self", "limit"] []
  f_Twice___init__ : Addr
  fd_Twice___init__ : FuncData
  X_Twice : OexC K c_Twice
  i_Twice : PySem.W.findIn K (.ref c_Twice) "__init__" = some (some (.ref f_Twice___init__)) ∧ PySem.W.typeIn K (.ref f_Twice___init__) = some (.type "function")
  cc_Twice : Addr
  cda_Twice : Addr
  S_Twice : SupTxt P K mg c_Twice cda_Twice cc_Twice (defScope s_Twice___init__)
  L_Twice : ∃ oc od kV dc pm an ct osl, K.lookup f_Twice___init__ = some ⟨oc, od, .func fd_Twice___init__, osl⟩ ∧ fd_Twice___init__ = PySem.W.fnX "__init__" "Twice.__init__" (defArgs s_Twice___init__) (defBody s_Twice___init__) (defScope s_Twice___init__) [("__class__", cc_Twice)] .none kV dc pm an (.ref cda_Twice) ct ∧ PySem.W.codeIn K (.ref cda_Twice) "Twice.__init__" = true
  E_Twice : ExK K c_Twice
  xn_Twice_name : PySem.W.findIn K (.ref c_Twice) "name" = some none
  xn_Twice_at : PySem.W.findIn K (.ref c_Twice) "at" = some none
  b_Twice___init__ : Binds K fd_Twice___init__ ["self", "name", "at"] []
  f_change_of : Addr
  fd_change_of : FuncData
  F_change_of : Fun K "change_of" "change_of" s_change_of f_change_of fd_change_of
  g_change_of : mg "change_of" = some (.ref f_change_of)
  b_change_of : Binds K fd_change_of ["op", "arg"] []
  f_places_behind : Addr
  fd_places_behind : FuncData
  F_places_behind : Fun K "places_behind" "places_behind" s_places_behind f_places_behind fd_places_behind
  g_places_behind : mg "places_behind" = some (.ref f_places_behind)
  b_places_behind : Binds K fd_places_behind ["op", "arg", "at"] []
  f_Draft___init__ : Addr
  fd_Draft___init__ : FuncData
  F_Draft___init__ : Fun K "__init__" "Draft.__init__" s_Draft___init__ f_Draft___init__ fd_Draft___init__
  M_Draft : Mk K c_Draft f_Draft___init__
  b_Draft___init__ : Binds K fd_Draft___init__ ["self", "selector", "argc", "count", "stack", "code", "literals"] []
  f_declared : Addr
  fd_declared : FuncData
  F_declared : Fun K "declared" "declared" s_declared f_declared fd_declared
  g_declared : mg "declared" = some (.ref f_declared)
  b_declared : Binds K fd_declared ["params", "temps"] []
  f_Coder___init__ : Addr
  fd_Coder___init__ : FuncData
  F_Coder___init__ : Fun K "__init__" "Coder.__init__" s_Coder___init__ f_Coder___init__ fd_Coder___init__
  M_Coder : Mk K c_Coder f_Coder___init__
  b_Coder___init__ : Binds K fd_Coder___init__ ["self", "fields", "globals_known"] []
  f_Coder_emit : Addr
  fd_Coder_emit : FuncData
  FD_Coder_emit : FunD K "emit" "Coder.emit" (defArgs s_Coder_emit) (defBody s_Coder_emit) (defScope s_Coder_emit) [.int (0)] [] f_Coder_emit fd_Coder_emit
  bd_Coder_emit : ∃ ds, Vals [.int (0)] ds ∧ Binds K fd_Coder_emit ["self", "op", "arg"] ds
  m_Coder_emit : Meth K c_Coder "emit" f_Coder_emit
  b_Coder_emit : Binds K fd_Coder_emit ["self", "op", "arg"] []
  f_Coder_here : Addr
  fd_Coder_here : FuncData
  F_Coder_here : Fun K "here" "Coder.here" s_Coder_here f_Coder_here fd_Coder_here
  m_Coder_here : Meth K c_Coder "here" f_Coder_here
  b_Coder_here : Binds K fd_Coder_here ["self"] []
  f_Coder_aim : Addr
  fd_Coder_aim : FuncData
  F_Coder_aim : Fun K "aim" "Coder.aim" s_Coder_aim f_Coder_aim fd_Coder_aim
  m_Coder_aim : Meth K c_Coder "aim" f_Coder_aim
  b_Coder_aim : Binds K fd_Coder_aim ["self", "place"] []
  f_Coder_literal : Addr
  fd_Coder_literal : FuncData
  F_Coder_literal : Fun K "literal" "Coder.literal" s_Coder_literal f_Coder_literal fd_Coder_literal
  m_Coder_literal : Meth K c_Coder "literal" f_Coder_literal
  b_Coder_literal : Binds K fd_Coder_literal ["self", "literal"] []
  f_Coder_name : Addr
  fd_Coder_name : FuncData
  F_Coder_name : Fun K "name" "Coder.name" s_Coder_name f_Coder_name fd_Coder_name
  m_Coder_name : Meth K c_Coder "name" f_Coder_name
  b_Coder_name : Binds K fd_Coder_name ["self", "name", "at"] []
  f_Coder_assign : Addr
  fd_Coder_assign : FuncData
  F_Coder_assign : Fun K "assign" "Coder.assign" s_Coder_assign f_Coder_assign fd_Coder_assign
  m_Coder_assign : Meth K c_Coder "assign" f_Coder_assign
  b_Coder_assign : Binds K fd_Coder_assign ["self", "name", "at"] []
  f_Coder_sequence : Addr
  fd_Coder_sequence : FuncData
  F_Coder_sequence : Fun K "sequence" "Coder.sequence" s_Coder_sequence f_Coder_sequence fd_Coder_sequence
  m_Coder_sequence : Meth K c_Coder "sequence" f_Coder_sequence
  b_Coder_sequence : Binds K fd_Coder_sequence ["self", "statements", "in_method"] []
  f_Coder_message : Addr
  fd_Coder_message : FuncData
  F_Coder_message : Fun K "message" "Coder.message" s_Coder_message f_Coder_message fd_Coder_message
  m_Coder_message : Meth K c_Coder "message" f_Coder_message
  b_Coder_message : Binds K fd_Coder_message ["self", "op", "selector", "args"] []
  f_Coder_send : Addr
  fd_Coder_send : FuncData
  F_Coder_send : Fun K "send" "Coder.send" s_Coder_send f_Coder_send fd_Coder_send
  m_Coder_send : Meth K c_Coder "send" f_Coder_send
  b_Coder_send : Binds K fd_Coder_send ["self", "receiver", "selector", "args"] []
  f_Coder_block : Addr
  fd_Coder_block : FuncData
  F_Coder_block : Fun K "block" "Coder.block" s_Coder_block f_Coder_block fd_Coder_block
  m_Coder_block : Meth K c_Coder "block" f_Coder_block
  b_Coder_block : Binds K fd_Coder_block ["self", "params", "temps", "statements"] []
  f_Coder_expression : Addr
  fd_Coder_expression : FuncData
  F_Coder_expression : Fun K "expression" "Coder.expression" s_Coder_expression f_Coder_expression fd_Coder_expression
  m_Coder_expression : Meth K c_Coder "expression" f_Coder_expression
  b_Coder_expression : Binds K fd_Coder_expression ["self", "tree"] []
  f_greatest_height : Addr
  fd_greatest_height : FuncData
  F_greatest_height : Fun K "greatest_height" "greatest_height" s_greatest_height f_greatest_height fd_greatest_height
  g_greatest_height : mg "greatest_height" = some (.ref f_greatest_height)
  b_greatest_height : Binds K fd_greatest_height ["code", "start", "blocks"] []
  f_with_stacks : Addr
  fd_with_stacks : FuncData
  F_with_stacks : Fun K "with_stacks" "with_stacks" s_with_stacks f_with_stacks fd_with_stacks
  g_with_stacks : mg "with_stacks" = some (.ref f_with_stacks)
  b_with_stacks : Binds K fd_with_stacks ["code", "literals"] []
  f_compile_method : Addr
  fd_compile_method : FuncData
  F_compile_method : Fun K "compile_method" "compile_method" s_compile_method f_compile_method fd_compile_method
  g_compile_method : mg "compile_method" = some (.ref f_compile_method)
  b_compile_method : Binds K fd_compile_method ["tree", "fields", "globals_known"] []
  f__law_cell : Addr
  fd__law_cell : FuncData
  F__law_cell : Fun K "_law_cell" "_law_cell" s__law_cell f__law_cell fd__law_cell
  g__law_cell : mg "_law_cell" = some (.ref f__law_cell)
  b__law_cell : Binds K fd__law_cell ["_law_script", "_law_k"] []
  f__law_told : Addr
  fd__law_told : FuncData
  F__law_told : Fun K "_law_told" "_law_told" s__law_told f__law_told fd__law_told
  g__law_told : mg "_law_told" = some (.ref f__law_told)
  b__law_told : Binds K fd__law_told ["_law_tree"] []
  f_law : Addr
  fd_law : FuncData
  F_law : Fun K "law" "law" s_law f_law fd_law
  g_law : mg "law" = some (.ref f_law)
  b_law : Binds K fd_law ["_law_script"] []
  em_TT : PySem.W.exmOne K (.ref c_Twice) (.ref c_Twice) = some true
  em_OT : PySem.W.exmOne K (.ref c_Oversized) (.ref c_Twice) = some false
  em_OO : PySem.W.exmOne K (.ref c_Oversized) (.ref c_Oversized) = some true
def mkW {l : PySem.W.OpenLaw} {K : PySem.W.Frag} {h : Heap} {mg : Str → Option Value} (X : K.In h) (G : h.Ns mainGlobals mg)
    {a_PUSHING : Addr}
    {tDPUSHING : Option Addr} {tNPUSHING : Nat} {tSPUSHING : Array (Option Value)} {ttPUSHING_0 : Tok} {ttPUSHING_1 : Tok} {ttPUSHING_2 : Tok} {ttPUSHING_3 : Tok} {ttPUSHING_4 : Tok} {ttPUSHING_5 : Tok} {ttPUSHING_6 : Tok} {ttPUSHING_7 : Tok} {ttPUSHING_8 : Tok} {ttPUSHING_9 : Tok} {ttPUSHING_10 : Tok}
    {a_SENDING : Addr}
    {tDSENDING : Option Addr} {tNSENDING : Nat} {tSSENDING : Array (Option Value)} {ttSENDING_0 : Tok} {ttSENDING_1 : Tok}
    {a_ENDING : Addr}
    {tDENDING : Option Addr} {tNENDING : Nat} {tSENDING : Array (Option Value)} {ttENDING_0 : Tok} {ttENDING_1 : Tok}
    {t_MOST_LOCALS : Tok}
    {a_RESERVED : Addr}
    {tDRESERVED : Option Addr} {tNRESERVED : Nat} {tSRESERVED : Array (Option Value)} {ttRESERVED_0 : Tok} {ttRESERVED_1 : Tok} {ttRESERVED_2 : Tok} {ttRESERVED_3 : Tok}
    {C_Oversized : Addr}
    {C_Twice : Addr}
    {C_Draft : Addr}
    {C_Coder : Addr}
    {ocOversized___init__ kVOversized___init__ dcOversized___init__ pmOversized___init__ cdOversized___init__ ctOversized___init__ : Value} {odOversized___init__ anOversized___init__ : Option Addr} {slOversized___init__ : Array (Option Value)} {fOversized___init__ : Addr}
    {cdaOversized___init__ ccOversized___init__ : Addr} {cclOversized___init__ coOversized___init__ : Value} {cddOversized___init__ cldOversized___init__ : Option Addr} {vsOversized___init__ : Array Value} {ccsOversized___init__ cslOversized___init__ : Array (Option Value)} {fileOversized___init__ : Str} {tfOversized___init__ : Tok}
    {nmOversized qOversized : Str} {NOversized : Addr} {bsOversized bmOversized : List Value} {snOversized : List Str} {subOversized : List Value} {abOversized : Bool} {colOversized : Option Bool} {ddOversized : Option Addr} {m0Oversized m1Oversized m2Oversized m3Oversized m5Oversized : Option Value}
    {ocTwice___init__ kVTwice___init__ dcTwice___init__ pmTwice___init__ cdTwice___init__ ctTwice___init__ : Value} {odTwice___init__ anTwice___init__ : Option Addr} {slTwice___init__ : Array (Option Value)} {fTwice___init__ : Addr}
    {cdaTwice___init__ ccTwice___init__ : Addr} {cclTwice___init__ coTwice___init__ : Value} {cddTwice___init__ cldTwice___init__ : Option Addr} {vsTwice___init__ : Array Value} {ccsTwice___init__ cslTwice___init__ : Array (Option Value)} {fileTwice___init__ : Str} {tfTwice___init__ : Tok}
    {nmTwice qTwice : Str} {NTwice : Addr} {bsTwice bmTwice : List Value} {snTwice : List Str} {subTwice : List Value} {abTwice : Bool} {colTwice : Option Bool} {ddTwice : Option Addr} {m0Twice m1Twice m2Twice m3Twice m5Twice : Option Value}
    {occhange_of kVchange_of dcchange_of pmchange_of cdchange_of ctchange_of : Value} {odchange_of anchange_of : Option Addr} {slchange_of : Array (Option Value)} {fchange_of : Addr}
    {ocplaces_behind kVplaces_behind dcplaces_behind pmplaces_behind cdplaces_behind ctplaces_behind : Value} {odplaces_behind anplaces_behind : Option Addr} {slplaces_behind : Array (Option Value)} {fplaces_behind : Addr}
    {ocDraft___init__ kVDraft___init__ dcDraft___init__ pmDraft___init__ cdDraft___init__ ctDraft___init__ : Value} {odDraft___init__ anDraft___init__ : Option Addr} {slDraft___init__ : Array (Option Value)} {fDraft___init__ : Addr}
    {ocdeclared kVdeclared dcdeclared pmdeclared cddeclared ctdeclared : Value} {oddeclared andeclared : Option Addr} {sldeclared : Array (Option Value)} {fdeclared : Addr}
    {ocCoder___init__ kVCoder___init__ dcCoder___init__ pmCoder___init__ cdCoder___init__ ctCoder___init__ : Value} {odCoder___init__ anCoder___init__ : Option Addr} {slCoder___init__ : Array (Option Value)} {fCoder___init__ : Addr}
    {ocCoder_emit kVCoder_emit dcCoder_emit pmCoder_emit cdCoder_emit ctCoder_emit : Value} {odCoder_emit anCoder_emit : Option Addr} {slCoder_emit : Array (Option Value)} {fCoder_emit : Addr}
    {dTCoder_emit : Addr} {dOCoder_emit : Value} {dDCoder_emit : Option Addr} {dnCoder_emit : Nat} {dSCoder_emit : Array (Option Value)} {dtCoder_emit_0 : Tok}
    {ocCoder_here kVCoder_here dcCoder_here pmCoder_here cdCoder_here ctCoder_here : Value} {odCoder_here anCoder_here : Option Addr} {slCoder_here : Array (Option Value)} {fCoder_here : Addr}
    {ocCoder_aim kVCoder_aim dcCoder_aim pmCoder_aim cdCoder_aim ctCoder_aim : Value} {odCoder_aim anCoder_aim : Option Addr} {slCoder_aim : Array (Option Value)} {fCoder_aim : Addr}
    {ocCoder_literal kVCoder_literal dcCoder_literal pmCoder_literal cdCoder_literal ctCoder_literal : Value} {odCoder_literal anCoder_literal : Option Addr} {slCoder_literal : Array (Option Value)} {fCoder_literal : Addr}
    {ocCoder_name kVCoder_name dcCoder_name pmCoder_name cdCoder_name ctCoder_name : Value} {odCoder_name anCoder_name : Option Addr} {slCoder_name : Array (Option Value)} {fCoder_name : Addr}
    {ocCoder_assign kVCoder_assign dcCoder_assign pmCoder_assign cdCoder_assign ctCoder_assign : Value} {odCoder_assign anCoder_assign : Option Addr} {slCoder_assign : Array (Option Value)} {fCoder_assign : Addr}
    {ocCoder_sequence kVCoder_sequence dcCoder_sequence pmCoder_sequence cdCoder_sequence ctCoder_sequence : Value} {odCoder_sequence anCoder_sequence : Option Addr} {slCoder_sequence : Array (Option Value)} {fCoder_sequence : Addr}
    {ocCoder_message kVCoder_message dcCoder_message pmCoder_message cdCoder_message ctCoder_message : Value} {odCoder_message anCoder_message : Option Addr} {slCoder_message : Array (Option Value)} {fCoder_message : Addr}
    {ocCoder_send kVCoder_send dcCoder_send pmCoder_send cdCoder_send ctCoder_send : Value} {odCoder_send anCoder_send : Option Addr} {slCoder_send : Array (Option Value)} {fCoder_send : Addr}
    {ocCoder_block kVCoder_block dcCoder_block pmCoder_block cdCoder_block ctCoder_block : Value} {odCoder_block anCoder_block : Option Addr} {slCoder_block : Array (Option Value)} {fCoder_block : Addr}
    {ocCoder_expression kVCoder_expression dcCoder_expression pmCoder_expression cdCoder_expression ctCoder_expression : Value} {odCoder_expression anCoder_expression : Option Addr} {slCoder_expression : Array (Option Value)} {fCoder_expression : Addr}
    {ocgreatest_height kVgreatest_height dcgreatest_height pmgreatest_height cdgreatest_height ctgreatest_height : Value} {odgreatest_height angreatest_height : Option Addr} {slgreatest_height : Array (Option Value)} {fgreatest_height : Addr}
    {ocwith_stacks kVwith_stacks dcwith_stacks pmwith_stacks cdwith_stacks ctwith_stacks : Value} {odwith_stacks anwith_stacks : Option Addr} {slwith_stacks : Array (Option Value)} {fwith_stacks : Addr}
    {occompile_method kVcompile_method dccompile_method pmcompile_method cdcompile_method ctcompile_method : Value} {odcompile_method ancompile_method : Option Addr} {slcompile_method : Array (Option Value)} {fcompile_method : Addr}
    {oc_law_cell kV_law_cell dc_law_cell pm_law_cell cd_law_cell ct_law_cell : Value} {od_law_cell an_law_cell : Option Addr} {sl_law_cell : Array (Option Value)} {f_law_cell : Addr}
    {oc_law_told kV_law_told dc_law_told pm_law_told cd_law_told ct_law_told : Value} {od_law_told an_law_told : Option Addr} {sl_law_told : Array (Option Value)} {f_law_told : Addr}
    {oclaw kVlaw dclaw pmlaw cdlaw ctlaw : Value} {odlaw anlaw : Option Addr} {sllaw : Array (Option Value)} {flaw : Addr}
    (z_third : PySem.W.nsIn K cStatics "thirdparty.any" = some none) (z_super : PySem.W.nsIn K mainGlobals "super" = some none) (z_top : (l.prog.main.scope.names.lookup ("super" : Str)).isSome = false)
    (z_sg : PySem.W.specialIn K (.builtin "object.__class__") "__get__" = some (some (.builtin "getset_descriptor.__get__"))) (z_st : PySem.W.takesIn K (.builtin "object.__class__") = some true)
    (z_int : PySem.W.nsIn K mainGlobals "int" = some none)
    (z_len : PySem.W.nsIn K mainGlobals "len" = some none)
    (z_list : PySem.W.nsIn K mainGlobals "list" = some none)
    (z_max : PySem.W.nsIn K mainGlobals "max" = some none)
    (z_range : PySem.W.nsIn K mainGlobals "range" = some none)
    (z_str : PySem.W.nsIn K mainGlobals "str" = some none)
    (z_tuple : PySem.W.nsIn K mainGlobals "tuple" = some none)
    (c_PUSHING : PySem.W.nsIn K mainGlobals "PUSHING" = some (some (.ref a_PUSHING)))
    (tl_PUSHING : K.lookup a_PUSHING = some ⟨.type "tuple", tDPUSHING, .seq ([.str (PySem.Str.ofString "local") ttPUSHING_0, .str (PySem.Str.ofString "outer") ttPUSHING_1, .str (PySem.Str.ofString "field") ttPUSHING_2, .str (PySem.Str.ofString "literal") ttPUSHING_3, .str (PySem.Str.ofString "global") ttPUSHING_4, .str (PySem.Str.ofString "self") ttPUSHING_5, .str (PySem.Str.ofString "nil") ttPUSHING_6, .str (PySem.Str.ofString "true") ttPUSHING_7, .str (PySem.Str.ofString "false") ttPUSHING_8, .str (PySem.Str.ofString "block") ttPUSHING_9, .str (PySem.Str.ofString "dup") ttPUSHING_10] : List Value).toArray tNPUSHING, tSPUSHING⟩)
    (c_SENDING : PySem.W.nsIn K mainGlobals "SENDING" = some (some (.ref a_SENDING)))
    (tl_SENDING : K.lookup a_SENDING = some ⟨.type "tuple", tDSENDING, .seq ([.str (PySem.Str.ofString "send") ttSENDING_0, .str (PySem.Str.ofString "super_send") ttSENDING_1] : List Value).toArray tNSENDING, tSSENDING⟩)
    (c_ENDING : PySem.W.nsIn K mainGlobals "ENDING" = some (some (.ref a_ENDING)))
    (tl_ENDING : K.lookup a_ENDING = some ⟨.type "tuple", tDENDING, .seq ([.str (PySem.Str.ofString "return") ttENDING_0, .str (PySem.Str.ofString "leave") ttENDING_1] : List Value).toArray tNENDING, tSENDING⟩)
    (c_MOST_LOCALS : PySem.W.nsIn K mainGlobals "MOST_LOCALS" = some (some (.int (255) t_MOST_LOCALS)))
    (c_RESERVED : PySem.W.nsIn K mainGlobals "RESERVED" = some (some (.ref a_RESERVED)))
    (tl_RESERVED : K.lookup a_RESERVED = some ⟨.type "tuple", tDRESERVED, .seq ([.str (PySem.Str.ofString "nil") ttRESERVED_0, .str (PySem.Str.ofString "true") ttRESERVED_1, .str (PySem.Str.ofString "false") ttRESERVED_2, .str (PySem.Str.ofString "self") ttRESERVED_3] : List Value).toArray tNRESERVED, tSRESERVED⟩)
    (cl_Oversized : PySem.W.nsIn K mainGlobals "Oversized" = some (some (.ref C_Oversized)))
    (cl_Twice : PySem.W.nsIn K mainGlobals "Twice" = some (some (.ref C_Twice)))
    (cl_Draft : PySem.W.nsIn K mainGlobals "Draft" = some (some (.ref C_Draft)))
    (pg_Draft : PySem.W.plainGet K C_Draft Str.empty = true)
    (hd_Draft : PySem.W.hasDictIn K C_Draft = true)
    (po_Draft : PySem.W.plainOver K C_Draft = true)
    (sa_Draft : PySem.W.findIn K (.ref C_Draft) "__setattr__" = some (some (.builtin "object.__setattr__")))
    (mk_Draft : PySem.W.makesIn K C_Draft = true)
    (kp_Draft : PySem.W.keepIn K (.ref C_Draft) = true)
    (na_Draft_selector : PySem.W.findIn K (.ref C_Draft) "selector" = some none)
    (na_Draft_argc : PySem.W.findIn K (.ref C_Draft) "argc" = some none)
    (na_Draft_locals : PySem.W.findIn K (.ref C_Draft) "locals" = some none)
    (na_Draft_stack : PySem.W.findIn K (.ref C_Draft) "stack" = some none)
    (na_Draft_code : PySem.W.findIn K (.ref C_Draft) "code" = some none)
    (na_Draft_literals : PySem.W.findIn K (.ref C_Draft) "literals" = some none)
    (cl_Coder : PySem.W.nsIn K mainGlobals "Coder" = some (some (.ref C_Coder)))
    (pg_Coder : PySem.W.plainGet K C_Coder Str.empty = true)
    (hd_Coder : PySem.W.hasDictIn K C_Coder = true)
    (po_Coder : PySem.W.plainOver K C_Coder = true)
    (sa_Coder : PySem.W.findIn K (.ref C_Coder) "__setattr__" = some (some (.builtin "object.__setattr__")))
    (mk_Coder : PySem.W.makesIn K C_Coder = true)
    (kp_Coder : PySem.W.keepIn K (.ref C_Coder) = true)
    (na_Coder_fields : PySem.W.findIn K (.ref C_Coder) "fields" = some none)
    (na_Coder_globals_known : PySem.W.findIn K (.ref C_Coder) "globals_known" = some none)
    (na_Coder_code : PySem.W.findIn K (.ref C_Coder) "code" = some none)
    (na_Coder_literals : PySem.W.findIn K (.ref C_Coder) "literals" = some none)
    (na_Coder_scopes : PySem.W.findIn K (.ref C_Coder) "scopes" = some none)
    (a_Oversized___init__ : PySem.W.findIn K (.ref C_Oversized) "__init__" = some (some (.ref fOversized___init__)))
    (l_Oversized___init__ : K.lookup fOversized___init__ = some ⟨ocOversized___init__, odOversized___init__, .func (PySem.W.fnX "__init__" "Oversized.__init__" (defArgs s_Oversized___init__) (defBody s_Oversized___init__) (defScope s_Oversized___init__) [("__class__", ccOversized___init__)] .none kVOversized___init__ dcOversized___init__ pmOversized___init__ anOversized___init__ (.ref cdaOversized___init__) ctOversized___init__), slOversized___init__⟩)
    (c_Oversized___init__ : PySem.W.codeIn K (.ref cdaOversized___init__) "Oversized.__init__" = true)
    (k_Oversized___init__ : PySem.W.typeIn K (.ref fOversized___init__) = some (.type "function"))
    (x1_Oversized___init__ : K.lookup cdaOversized___init__ = some ⟨cclOversized___init__, cddOversized___init__, .fields vsOversized___init__, ccsOversized___init__⟩)
    (x2_Oversized___init__ : vsOversized___init__[2]? = some (.str fileOversized___init__ tfOversized___init__))
    (x3_Oversized___init__ : ((l.prog.main.file : Str) == fileOversized___init__) = true)
    (x4_Oversized___init__ : K.lookup ccOversized___init__ = some ⟨coOversized___init__, cldOversized___init__, .cell (some (.ref C_Oversized)), cslOversized___init__⟩)
    (xl_Oversized : K.lookup C_Oversized = some (excClassObj nmOversized qOversized C_Oversized NOversized bsOversized bmOversized true snOversized subOversized abOversized colOversized ddOversized m0Oversized m1Oversized m2Oversized m3Oversized m5Oversized "ValueError.__new__"))
    (xr_Oversized : PySem.HandSPX.refsVE bmOversized = true)
    (xs_Oversized : PySem.W.findIn K (.ref C_Oversized) "__setattr__" = some (some (.builtin "object.__setattr__")))
    (xe_Oversized : PySem.W.subIn K (.ref C_Oversized) (.type "BaseException") = some true)
    (xt_Oversized : PySem.W.typeIn K (.ref C_Oversized) = some (.type "type"))
    (xk_Oversized : PySem.W.keepIn K (.ref C_Oversized) = true)
    (xm_Oversized : PySem.W.mroIn K C_Oversized (.ref C_Oversized) = some true)
    (xi_Oversized : PySem.W.ks_superIn K C_Oversized C_Oversized "__init__" = some (some (.builtin "ValueError.__init__")))
    (xb_Oversized : PySem.W.subIn K (.ref C_Oversized) (.type "ValueError") = some true)
    (eg_Oversized : PySem.W.findIn K (.ref C_Oversized) "__getattribute__" = some (some (.builtin "BaseException.__getattribute__")))
    (ek_Oversized : PySem.W.findIn K (.ref C_Oversized) "__getattr__" = some none)
    (ed_Oversized : PySem.W.hasDictIn K C_Oversized = true)
    (ea_Oversized : PySem.W.findIn K (.ref C_Oversized) "__class__" = some (some (.builtin "object.__class__")))
    (em_Oversized : PySem.W.mroIn K C_Oversized (.type "object") = some true)
    (xn_Oversized_limit : PySem.W.findIn K (.ref C_Oversized) "limit" = some none)
    (a_Twice___init__ : PySem.W.findIn K (.ref C_Twice) "__init__" = some (some (.ref fTwice___init__)))
    (l_Twice___init__ : K.lookup fTwice___init__ = some ⟨ocTwice___init__, odTwice___init__, .func (PySem.W.fnX "__init__" "Twice.__init__" (defArgs s_Twice___init__) (defBody s_Twice___init__) (defScope s_Twice___init__) [("__class__", ccTwice___init__)] .none kVTwice___init__ dcTwice___init__ pmTwice___init__ anTwice___init__ (.ref cdaTwice___init__) ctTwice___init__), slTwice___init__⟩)
    (c_Twice___init__ : PySem.W.codeIn K (.ref cdaTwice___init__) "Twice.__init__" = true)
    (k_Twice___init__ : PySem.W.typeIn K (.ref fTwice___init__) = some (.type "function"))
    (x1_Twice___init__ : K.lookup cdaTwice___init__ = some ⟨cclTwice___init__, cddTwice___init__, .fields vsTwice___init__, ccsTwice___init__⟩)
    (x2_Twice___init__ : vsTwice___init__[2]? = some (.str fileTwice___init__ tfTwice___init__))
    (x3_Twice___init__ : ((l.prog.main.file : Str) == fileTwice___init__) = true)
    (x4_Twice___init__ : K.lookup ccTwice___init__ = some ⟨coTwice___init__, cldTwice___init__, .cell (some (.ref C_Twice)), cslTwice___init__⟩)
    (xl_Twice : K.lookup C_Twice = some (excClassObj nmTwice qTwice C_Twice NTwice bsTwice bmTwice true snTwice subTwice abTwice colTwice ddTwice m0Twice m1Twice m2Twice m3Twice m5Twice "ValueError.__new__"))
    (xr_Twice : PySem.HandSPX.refsVE bmTwice = true)
    (xs_Twice : PySem.W.findIn K (.ref C_Twice) "__setattr__" = some (some (.builtin "object.__setattr__")))
    (xe_Twice : PySem.W.subIn K (.ref C_Twice) (.type "BaseException") = some true)
    (xt_Twice : PySem.W.typeIn K (.ref C_Twice) = some (.type "type"))
    (xk_Twice : PySem.W.keepIn K (.ref C_Twice) = true)
    (xm_Twice : PySem.W.mroIn K C_Twice (.ref C_Twice) = some true)
    (xi_Twice : PySem.W.ks_superIn K C_Twice C_Twice "__init__" = some (some (.builtin "ValueError.__init__")))
    (xb_Twice : PySem.W.subIn K (.ref C_Twice) (.type "ValueError") = some true)
    (eg_Twice : PySem.W.findIn K (.ref C_Twice) "__getattribute__" = some (some (.builtin "BaseException.__getattribute__")))
    (ek_Twice : PySem.W.findIn K (.ref C_Twice) "__getattr__" = some none)
    (ed_Twice : PySem.W.hasDictIn K C_Twice = true)
    (ea_Twice : PySem.W.findIn K (.ref C_Twice) "__class__" = some (some (.builtin "object.__class__")))
    (em_Twice : PySem.W.mroIn K C_Twice (.type "object") = some true)
    (xn_Twice_name : PySem.W.findIn K (.ref C_Twice) "name" = some none)
    (xn_Twice_at : PySem.W.findIn K (.ref C_Twice) "at" = some none)
    (a_change_of : PySem.W.nsIn K mainGlobals "change_of" = some (some (.ref fchange_of)))
    (l_change_of : K.lookup fchange_of = some ⟨occhange_of, odchange_of, .func (PySem.W.fnOf "change_of" "change_of" (defArgs s_change_of) (defBody s_change_of) (defScope s_change_of) .none kVchange_of dcchange_of pmchange_of anchange_of cdchange_of ctchange_of), slchange_of⟩)
    (c_change_of : PySem.W.codeIn K cdchange_of "change_of" = true)
    (k_change_of : PySem.W.keepIn K (.ref fchange_of) = true)
    (a_places_behind : PySem.W.nsIn K mainGlobals "places_behind" = some (some (.ref fplaces_behind)))
    (l_places_behind : K.lookup fplaces_behind = some ⟨ocplaces_behind, odplaces_behind, .func (PySem.W.fnOf "places_behind" "places_behind" (defArgs s_places_behind) (defBody s_places_behind) (defScope s_places_behind) .none kVplaces_behind dcplaces_behind pmplaces_behind anplaces_behind cdplaces_behind ctplaces_behind), slplaces_behind⟩)
    (c_places_behind : PySem.W.codeIn K cdplaces_behind "places_behind" = true)
    (k_places_behind : PySem.W.keepIn K (.ref fplaces_behind) = true)
    (a_Draft___init__ : PySem.W.findIn K (.ref C_Draft) "__init__" = some (some (.ref fDraft___init__)))
    (l_Draft___init__ : K.lookup fDraft___init__ = some ⟨ocDraft___init__, odDraft___init__, .func (PySem.W.fnOf "__init__" "Draft.__init__" (defArgs s_Draft___init__) (defBody s_Draft___init__) (defScope s_Draft___init__) .none kVDraft___init__ dcDraft___init__ pmDraft___init__ anDraft___init__ cdDraft___init__ ctDraft___init__), slDraft___init__⟩)
    (c_Draft___init__ : PySem.W.codeIn K cdDraft___init__ "Draft.__init__" = true)
    (k_Draft___init__ : PySem.W.keepIn K (.ref fDraft___init__) = true)
    (fn_Draft___init__ : PySem.W.isFn K (.ref fDraft___init__) = true)
    (a_declared : PySem.W.nsIn K mainGlobals "declared" = some (some (.ref fdeclared)))
    (l_declared : K.lookup fdeclared = some ⟨ocdeclared, oddeclared, .func (PySem.W.fnOf "declared" "declared" (defArgs s_declared) (defBody s_declared) (defScope s_declared) .none kVdeclared dcdeclared pmdeclared andeclared cddeclared ctdeclared), sldeclared⟩)
    (c_declared : PySem.W.codeIn K cddeclared "declared" = true)
    (k_declared : PySem.W.keepIn K (.ref fdeclared) = true)
    (a_Coder___init__ : PySem.W.findIn K (.ref C_Coder) "__init__" = some (some (.ref fCoder___init__)))
    (l_Coder___init__ : K.lookup fCoder___init__ = some ⟨ocCoder___init__, odCoder___init__, .func (PySem.W.fnOf "__init__" "Coder.__init__" (defArgs s_Coder___init__) (defBody s_Coder___init__) (defScope s_Coder___init__) .none kVCoder___init__ dcCoder___init__ pmCoder___init__ anCoder___init__ cdCoder___init__ ctCoder___init__), slCoder___init__⟩)
    (c_Coder___init__ : PySem.W.codeIn K cdCoder___init__ "Coder.__init__" = true)
    (k_Coder___init__ : PySem.W.keepIn K (.ref fCoder___init__) = true)
    (fn_Coder___init__ : PySem.W.isFn K (.ref fCoder___init__) = true)
    (a_Coder_emit : PySem.W.findIn K (.ref C_Coder) "emit" = some (some (.ref fCoder_emit)))
    (l_Coder_emit : K.lookup fCoder_emit = some ⟨ocCoder_emit, odCoder_emit, .func (PySem.W.fnOf "emit" "Coder.emit" (defArgs s_Coder_emit) (defBody s_Coder_emit) (defScope s_Coder_emit) (.ref dTCoder_emit) kVCoder_emit dcCoder_emit pmCoder_emit anCoder_emit cdCoder_emit ctCoder_emit), slCoder_emit⟩)
    (dl_Coder_emit : K.lookup dTCoder_emit = some ⟨dOCoder_emit, dDCoder_emit, .seq ([.int (0) dtCoder_emit_0] : List Value).toArray dnCoder_emit, dSCoder_emit⟩)
    (c_Coder_emit : PySem.W.codeIn K cdCoder_emit "Coder.emit" = true)
    (k_Coder_emit : PySem.W.keepIn K (.ref fCoder_emit) = true)
    (fn_Coder_emit : PySem.W.isFn K (.ref fCoder_emit) = true)
    (a_Coder_here : PySem.W.findIn K (.ref C_Coder) "here" = some (some (.ref fCoder_here)))
    (l_Coder_here : K.lookup fCoder_here = some ⟨ocCoder_here, odCoder_here, .func (PySem.W.fnOf "here" "Coder.here" (defArgs s_Coder_here) (defBody s_Coder_here) (defScope s_Coder_here) .none kVCoder_here dcCoder_here pmCoder_here anCoder_here cdCoder_here ctCoder_here), slCoder_here⟩)
    (c_Coder_here : PySem.W.codeIn K cdCoder_here "Coder.here" = true)
    (k_Coder_here : PySem.W.keepIn K (.ref fCoder_here) = true)
    (fn_Coder_here : PySem.W.isFn K (.ref fCoder_here) = true)
    (a_Coder_aim : PySem.W.findIn K (.ref C_Coder) "aim" = some (some (.ref fCoder_aim)))
    (l_Coder_aim : K.lookup fCoder_aim = some ⟨ocCoder_aim, odCoder_aim, .func (PySem.W.fnOf "aim" "Coder.aim" (defArgs s_Coder_aim) (defBody s_Coder_aim) (defScope s_Coder_aim) .none kVCoder_aim dcCoder_aim pmCoder_aim anCoder_aim cdCoder_aim ctCoder_aim), slCoder_aim⟩)
    (c_Coder_aim : PySem.W.codeIn K cdCoder_aim "Coder.aim" = true)
    (k_Coder_aim : PySem.W.keepIn K (.ref fCoder_aim) = true)
    (fn_Coder_aim : PySem.W.isFn K (.ref fCoder_aim) = true)
    (a_Coder_literal : PySem.W.findIn K (.ref C_Coder) "literal" = some (some (.ref fCoder_literal)))
    (l_Coder_literal : K.lookup fCoder_literal = some ⟨ocCoder_literal, odCoder_literal, .func (PySem.W.fnOf "literal" "Coder.literal" (defArgs s_Coder_literal) (defBody s_Coder_literal) (defScope s_Coder_literal) .none kVCoder_literal dcCoder_literal pmCoder_literal anCoder_literal cdCoder_literal ctCoder_literal), slCoder_literal⟩)
    (c_Coder_literal : PySem.W.codeIn K cdCoder_literal "Coder.literal" = true)
    (k_Coder_literal : PySem.W.keepIn K (.ref fCoder_literal) = true)
    (fn_Coder_literal : PySem.W.isFn K (.ref fCoder_literal) = true)
    (a_Coder_name : PySem.W.findIn K (.ref C_Coder) "name" = some (some (.ref fCoder_name)))
    (l_Coder_name : K.lookup fCoder_name = some ⟨ocCoder_name, odCoder_name, .func (PySem.W.fnOf "name" "Coder.name" (defArgs s_Coder_name) (defBody s_Coder_name) (defScope s_Coder_name) .none kVCoder_name dcCoder_name pmCoder_name anCoder_name cdCoder_name ctCoder_name), slCoder_name⟩)
    (c_Coder_name : PySem.W.codeIn K cdCoder_name "Coder.name" = true)
    (k_Coder_name : PySem.W.keepIn K (.ref fCoder_name) = true)
    (fn_Coder_name : PySem.W.isFn K (.ref fCoder_name) = true)
    (a_Coder_assign : PySem.W.findIn K (.ref C_Coder) "assign" = some (some (.ref fCoder_assign)))
    (l_Coder_assign : K.lookup fCoder_assign = some ⟨ocCoder_assign, odCoder_assign, .func (PySem.W.fnOf "assign" "Coder.assign" (defArgs s_Coder_assign) (defBody s_Coder_assign) (defScope s_Coder_assign) .none kVCoder_assign dcCoder_assign pmCoder_assign anCoder_assign cdCoder_assign ctCoder_assign), slCoder_assign⟩)
    (c_Coder_assign : PySem.W.codeIn K cdCoder_assign "Coder.assign" = true)
    (k_Coder_assign : PySem.W.keepIn K (.ref fCoder_assign) = true)
    (fn_Coder_assign : PySem.W.isFn K (.ref fCoder_assign) = true)
    (a_Coder_sequence : PySem.W.findIn K (.ref C_Coder) "sequence" = some (some (.ref fCoder_sequence)))
    (l_Coder_sequence : K.lookup fCoder_sequence = some ⟨ocCoder_sequence, odCoder_sequence, .func (PySem.W.fnOf "sequence" "Coder.sequence" (defArgs s_Coder_sequence) (defBody s_Coder_sequence) (defScope s_Coder_sequence) .none kVCoder_sequence dcCoder_sequence pmCoder_sequence anCoder_sequence cdCoder_sequence ctCoder_sequence), slCoder_sequence⟩)
    (c_Coder_sequence : PySem.W.codeIn K cdCoder_sequence "Coder.sequence" = true)
    (k_Coder_sequence : PySem.W.keepIn K (.ref fCoder_sequence) = true)
    (fn_Coder_sequence : PySem.W.isFn K (.ref fCoder_sequence) = true)
    (a_Coder_message : PySem.W.findIn K (.ref C_Coder) "message" = some (some (.ref fCoder_message)))
    (l_Coder_message : K.lookup fCoder_message = some ⟨ocCoder_message, odCoder_message, .func (PySem.W.fnOf "message" "Coder.message" (defArgs s_Coder_message) (defBody s_Coder_message) (defScope s_Coder_message) .none kVCoder_message dcCoder_message pmCoder_message anCoder_message cdCoder_message ctCoder_message), slCoder_message⟩)
    (c_Coder_message : PySem.W.codeIn K cdCoder_message "Coder.message" = true)
    (k_Coder_message : PySem.W.keepIn K (.ref fCoder_message) = true)
    (fn_Coder_message : PySem.W.isFn K (.ref fCoder_message) = true)
    (a_Coder_send : PySem.W.findIn K (.ref C_Coder) "send" = some (some (.ref fCoder_send)))
    (l_Coder_send : K.lookup fCoder_send = some ⟨ocCoder_send, odCoder_send, .func (PySem.W.fnOf "send" "Coder.send" (defArgs s_Coder_send) (defBody s_Coder_send) (defScope s_Coder_send) .none kVCoder_send dcCoder_send pmCoder_send anCoder_send cdCoder_send ctCoder_send), slCoder_send⟩)
    (c_Coder_send : PySem.W.codeIn K cdCoder_send "Coder.send" = true)
    (k_Coder_send : PySem.W.keepIn K (.ref fCoder_send) = true)
    (fn_Coder_send : PySem.W.isFn K (.ref fCoder_send) = true)
    (a_Coder_block : PySem.W.findIn K (.ref C_Coder) "block" = some (some (.ref fCoder_block)))
    (l_Coder_block : K.lookup fCoder_block = some ⟨ocCoder_block, odCoder_block, .func (PySem.W.fnOf "block" "Coder.block" (defArgs s_Coder_block) (defBody s_Coder_block) (defScope s_Coder_block) .none kVCoder_block dcCoder_block pmCoder_block anCoder_block cdCoder_block ctCoder_block), slCoder_block⟩)
    (c_Coder_block : PySem.W.codeIn K cdCoder_block "Coder.block" = true)
    (k_Coder_block : PySem.W.keepIn K (.ref fCoder_block) = true)
    (fn_Coder_block : PySem.W.isFn K (.ref fCoder_block) = true)
    (a_Coder_expression : PySem.W.findIn K (.ref C_Coder) "expression" = some (some (.ref fCoder_expression)))
    (l_Coder_expression : K.lookup fCoder_expression = some ⟨ocCoder_expression, odCoder_expression, .func (PySem.W.fnOf "expression" "Coder.expression" (defArgs s_Coder_expression) (defBody s_Coder_expression) (defScope s_Coder_expression) .none kVCoder_expression dcCoder_expression pmCoder_expression anCoder_expression cdCoder_expression ctCoder_expression), slCoder_expression⟩)
    (c_Coder_expression : PySem.W.codeIn K cdCoder_expression "Coder.expression" = true)
    (k_Coder_expression : PySem.W.keepIn K (.ref fCoder_expression) = true)
    (fn_Coder_expression : PySem.W.isFn K (.ref fCoder_expression) = true)
    (a_greatest_height : PySem.W.nsIn K mainGlobals "greatest_height" = some (some (.ref fgreatest_height)))
    (l_greatest_height : K.lookup fgreatest_height = some ⟨ocgreatest_height, odgreatest_height, .func (PySem.W.fnOf "greatest_height" "greatest_height" (defArgs s_greatest_height) (defBody s_greatest_height) (defScope s_greatest_height) .none kVgreatest_height dcgreatest_height pmgreatest_height angreatest_height cdgreatest_height ctgreatest_height), slgreatest_height⟩)
    (c_greatest_height : PySem.W.codeIn K cdgreatest_height "greatest_height" = true)
    (k_greatest_height : PySem.W.keepIn K (.ref fgreatest_height) = true)
    (a_with_stacks : PySem.W.nsIn K mainGlobals "with_stacks" = some (some (.ref fwith_stacks)))
    (l_with_stacks : K.lookup fwith_stacks = some ⟨ocwith_stacks, odwith_stacks, .func (PySem.W.fnOf "with_stacks" "with_stacks" (defArgs s_with_stacks) (defBody s_with_stacks) (defScope s_with_stacks) .none kVwith_stacks dcwith_stacks pmwith_stacks anwith_stacks cdwith_stacks ctwith_stacks), slwith_stacks⟩)
    (c_with_stacks : PySem.W.codeIn K cdwith_stacks "with_stacks" = true)
    (k_with_stacks : PySem.W.keepIn K (.ref fwith_stacks) = true)
    (a_compile_method : PySem.W.nsIn K mainGlobals "compile_method" = some (some (.ref fcompile_method)))
    (l_compile_method : K.lookup fcompile_method = some ⟨occompile_method, odcompile_method, .func (PySem.W.fnOf "compile_method" "compile_method" (defArgs s_compile_method) (defBody s_compile_method) (defScope s_compile_method) .none kVcompile_method dccompile_method pmcompile_method ancompile_method cdcompile_method ctcompile_method), slcompile_method⟩)
    (c_compile_method : PySem.W.codeIn K cdcompile_method "compile_method" = true)
    (k_compile_method : PySem.W.keepIn K (.ref fcompile_method) = true)
    (a__law_cell : PySem.W.nsIn K mainGlobals "_law_cell" = some (some (.ref f_law_cell)))
    (l__law_cell : K.lookup f_law_cell = some ⟨oc_law_cell, od_law_cell, .func (PySem.W.fnOf "_law_cell" "_law_cell" (defArgs s__law_cell) (defBody s__law_cell) (defScope s__law_cell) .none kV_law_cell dc_law_cell pm_law_cell an_law_cell cd_law_cell ct_law_cell), sl_law_cell⟩)
    (c__law_cell : PySem.W.codeIn K cd_law_cell "_law_cell" = true)
    (k__law_cell : PySem.W.keepIn K (.ref f_law_cell) = true)
    (a__law_told : PySem.W.nsIn K mainGlobals "_law_told" = some (some (.ref f_law_told)))
    (l__law_told : K.lookup f_law_told = some ⟨oc_law_told, od_law_told, .func (PySem.W.fnOf "_law_told" "_law_told" (defArgs s__law_told) (defBody s__law_told) (defScope s__law_told) .none kV_law_told dc_law_told pm_law_told an_law_told cd_law_told ct_law_told), sl_law_told⟩)
    (c__law_told : PySem.W.codeIn K cd_law_told "_law_told" = true)
    (k__law_told : PySem.W.keepIn K (.ref f_law_told) = true)
    (a_law : PySem.W.nsIn K mainGlobals "law" = some (some (.ref flaw)))
    (l_law : K.lookup flaw = some ⟨oclaw, odlaw, .func (PySem.W.fnOf "law" "law" (defArgs s_law) (defBody s_law) (defScope s_law) .none kVlaw dclaw pmlaw anlaw cdlaw ctlaw), sllaw⟩)
    (c_law : PySem.W.codeIn K cdlaw "law" = true)
    (k_law : PySem.W.keepIn K (.ref flaw) = true)
    (qem_TT : PySem.W.exmOne K (.ref C_Twice) (.ref C_Twice) = some true)
    (qem_OT : PySem.W.exmOne K (.ref C_Oversized) (.ref C_Twice) = some false)
    (qem_OO : PySem.W.exmOne K (.ref C_Oversized) (.ref C_Oversized) = some true) : Wd l.prog K mg :=
  { n_int := PySem.W.mg_none_of X G z_int,
    n_len := PySem.W.mg_none_of X G z_len,
    n_list := PySem.W.mg_none_of X G z_list,
    n_max := PySem.W.mg_none_of X G z_max,
    n_range := PySem.W.mg_none_of X G z_range,
    n_str := PySem.W.mg_none_of X G z_str,
    n_tuple := PySem.W.mg_none_of X G z_tuple,
    a_PUSHING := a_PUSHING, g_PUSHING := PySem.W.mg_of X G c_PUSHING,
    tp_PUSHING := fun _ => Or.inr ⟨_, _, _, tl_PUSHING, rfl, rfl, (by show 11 ≤ sizeLine; decide), (.cons ⟨_, by rw [(show (PySem.Str.ofString "local") = T [108, 111, 99, 97, 108] by decide +kernel)]⟩ (.cons ⟨_, by rw [(show (PySem.Str.ofString "outer") = T [111, 117, 116, 101, 114] by decide +kernel)]⟩ (.cons ⟨_, by rw [(show (PySem.Str.ofString "field") = T [102, 105, 101, 108, 100] by decide +kernel)]⟩ (.cons ⟨_, by rw [(show (PySem.Str.ofString "literal") = T [108, 105, 116, 101, 114, 97, 108] by decide +kernel)]⟩ (.cons ⟨_, by rw [(show (PySem.Str.ofString "global") = T [103, 108, 111, 98, 97, 108] by decide +kernel)]⟩ (.cons ⟨_, by rw [(show (PySem.Str.ofString "self") = T [115, 101, 108, 102] by decide +kernel)]⟩ (.cons ⟨_, by rw [(show (PySem.Str.ofString "nil") = T [110, 105, 108] by decide +kernel)]⟩ (.cons ⟨_, by rw [(show (PySem.Str.ofString "true") = T [116, 114, 117, 101] by decide +kernel)]⟩ (.cons ⟨_, by rw [(show (PySem.Str.ofString "false") = T [102, 97, 108, 115, 101] by decide +kernel)]⟩ (.cons ⟨_, by rw [(show (PySem.Str.ofString "block") = T [98, 108, 111, 99, 107] by decide +kernel)]⟩ (.cons ⟨_, by rw [(show (PySem.Str.ofString "dup") = T [100, 117, 112] by decide +kernel)]⟩ .nil)))))))))))⟩,
    a_SENDING := a_SENDING, g_SENDING := PySem.W.mg_of X G c_SENDING,
    tp_SENDING := fun _ => Or.inr ⟨_, _, _, tl_SENDING, rfl, rfl, (by show 2 ≤ sizeLine; decide), (.cons ⟨_, by rw [(show (PySem.Str.ofString "send") = T [115, 101, 110, 100] by decide +kernel)]⟩ (.cons ⟨_, by rw [(show (PySem.Str.ofString "super_send") = T [115, 117, 112, 101, 114, 95, 115, 101, 110, 100] by decide +kernel)]⟩ .nil))⟩,
    a_ENDING := a_ENDING, g_ENDING := PySem.W.mg_of X G c_ENDING,
    tp_ENDING := fun _ => Or.inr ⟨_, _, _, tl_ENDING, rfl, rfl, (by show 2 ≤ sizeLine; decide), (.cons ⟨_, by rw [(show (PySem.Str.ofString "return") = T [114, 101, 116, 117, 114, 110] by decide +kernel)]⟩ (.cons ⟨_, by rw [(show (PySem.Str.ofString "leave") = T [108, 101, 97, 118, 101] by decide +kernel)]⟩ .nil))⟩,
    t_MOST_LOCALS := t_MOST_LOCALS, g_MOST_LOCALS := PySem.W.mg_of X G c_MOST_LOCALS,
    a_RESERVED := a_RESERVED, g_RESERVED := PySem.W.mg_of X G c_RESERVED,
    tp_RESERVED := fun _ => Or.inr ⟨_, _, _, tl_RESERVED, rfl, rfl, (by show 4 ≤ sizeLine; decide), (.cons ⟨_, by rw [(show (PySem.Str.ofString "nil") = T [110, 105, 108] by decide +kernel)]⟩ (.cons ⟨_, by rw [(show (PySem.Str.ofString "true") = T [116, 114, 117, 101] by decide +kernel)]⟩ (.cons ⟨_, by rw [(show (PySem.Str.ofString "false") = T [102, 97, 108, 115, 101] by decide +kernel)]⟩ (.cons ⟨_, by rw [(show (PySem.Str.ofString "self") = T [115, 101, 108, 102] by decide +kernel)]⟩ .nil))))⟩,
    c_Oversized := C_Oversized, g_Oversized := PySem.W.mg_of X G cl_Oversized,
    c_Twice := C_Twice, g_Twice := PySem.W.mg_of X G cl_Twice,
    c_Draft := C_Draft, g_Draft := PySem.W.mg_of X G cl_Draft,
    C_Draft := ⟨pg_Draft, hd_Draft, po_Draft, sa_Draft⟩,
    na_Draft_selector := na_Draft_selector,
    na_Draft_argc := na_Draft_argc,
    na_Draft_locals := na_Draft_locals,
    na_Draft_stack := na_Draft_stack,
    na_Draft_code := na_Draft_code,
    na_Draft_literals := na_Draft_literals,
    c_Coder := C_Coder, g_Coder := PySem.W.mg_of X G cl_Coder,
    C_Coder := ⟨pg_Coder, hd_Coder, po_Coder, sa_Coder⟩,
    na_Coder_fields := na_Coder_fields,
    na_Coder_globals_known := na_Coder_globals_known,
    na_Coder_code := na_Coder_code,
    na_Coder_literals := na_Coder_literals,
    na_Coder_scopes := na_Coder_scopes,
    X_Oversized := ⟨⟨_, _, _, _, _, _, _, _, _, _, _, _, _, _, _, xl_Oversized, xr_Oversized⟩, xs_Oversized, xe_Oversized, xt_Oversized, xk_Oversized⟩,
    i_Oversized := ⟨a_Oversized___init__, k_Oversized___init__⟩,
    cc_Oversized := ccOversized___init__, cda_Oversized := cdaOversized___init__,
    S_Oversized := { ox := ⟨⟨_, _, _, _, _, _, _, _, _, _, _, _, _, _, _, xl_Oversized, xr_Oversized⟩, xs_Oversized, xe_Oversized, xt_Oversized, xk_Oversized⟩, code := ⟨_, _, _, _, _, _, x1_Oversized___init__, x2_Oversized___init__, x3_Oversized___init__⟩, cell := ⟨_, _, _, x4_Oversized___init__⟩, cls := ⟨_, by unfold PySem.W.clsIn; rw [xl_Oversized] <;> rfl⟩, sub := xm_Oversized, init := xi_Oversized, isB := xb_Oversized, third := z_third, mgS := PySem.W.mg_none_of X G z_super, hks := by decide +kernel, hkc := by decide +kernel, htop := z_top },
    f_Oversized___init__ := fOversized___init__, fd_Oversized___init__ := _, L_Oversized := ⟨_, _, _, _, _, _, _, _, l_Oversized___init__, rfl, c_Oversized___init__⟩,
    E_Oversized := ⟨⟨⟨_, _, _, _, _, _, _, _, _, _, _, _, _, _, _, xl_Oversized, xr_Oversized⟩, xs_Oversized, xe_Oversized, xt_Oversized, xk_Oversized⟩, eg_Oversized, ek_Oversized, ed_Oversized, ea_Oversized, z_sg, z_st, em_Oversized⟩,
    xn_Oversized_limit := xn_Oversized_limit,
    b_Oversized___init__ := .all fun us hl => match us, hl with | [_, _], _ => rfl,
    X_Twice := ⟨⟨_, _, _, _, _, _, _, _, _, _, _, _, _, _, _, xl_Twice, xr_Twice⟩, xs_Twice, xe_Twice, xt_Twice, xk_Twice⟩,
    i_Twice := ⟨a_Twice___init__, k_Twice___init__⟩,
    cc_Twice := ccTwice___init__, cda_Twice := cdaTwice___init__,
    S_Twice := { ox := ⟨⟨_, _, _, _, _, _, _, _, _, _, _, _, _, _, _, xl_Twice, xr_Twice⟩, xs_Twice, xe_Twice, xt_Twice, xk_Twice⟩, code := ⟨_, _, _, _, _, _, x1_Twice___init__, x2_Twice___init__, x3_Twice___init__⟩, cell := ⟨_, _, _, x4_Twice___init__⟩, cls := ⟨_, by unfold PySem.W.clsIn; rw [xl_Twice] <;> rfl⟩, sub := xm_Twice, init := xi_Twice, isB := xb_Twice, third := z_third, mgS := PySem.W.mg_none_of X G z_super, hks := by decide +kernel, hkc := by decide +kernel, htop := z_top },
    f_Twice___init__ := fTwice___init__, fd_Twice___init__ := _, L_Twice := ⟨_, _, _, _, _, _, _, _, l_Twice___init__, rfl, c_Twice___init__⟩,
    E_Twice := ⟨⟨⟨_, _, _, _, _, _, _, _, _, _, _, _, _, _, _, xl_Twice, xr_Twice⟩, xs_Twice, xe_Twice, xt_Twice, xk_Twice⟩, eg_Twice, ek_Twice, ed_Twice, ea_Twice, z_sg, z_st, em_Twice⟩,
    xn_Twice_name := xn_Twice_name,
    xn_Twice_at := xn_Twice_at,
    b_Twice___init__ := .all fun us hl => match us, hl with | [_, _, _], _ => rfl,
    f_change_of := fchange_of, fd_change_of := _, F_change_of := fun_mk (st := s_change_of) l_change_of c_change_of k_change_of,
    g_change_of := PySem.W.mg_of X G a_change_of,
    b_change_of := (fun_mk (st := s_change_of) l_change_of c_change_of k_change_of).binds (ps := ["op", "arg"]) fun _ _ _ _ _ _ us hl => match us, hl with | [_, _], _ => rfl,
    f_places_behind := fplaces_behind, fd_places_behind := _, F_places_behind := fun_mk (st := s_places_behind) l_places_behind c_places_behind k_places_behind,
    g_places_behind := PySem.W.mg_of X G a_places_behind,
    b_places_behind := (fun_mk (st := s_places_behind) l_places_behind c_places_behind k_places_behind).binds (ps := ["op", "arg", "at"]) fun _ _ _ _ _ _ us hl => match us, hl with | [_, _, _], _ => rfl,
    f_Draft___init__ := fDraft___init__, fd_Draft___init__ := _, F_Draft___init__ := fun_mk (st := s_Draft___init__) l_Draft___init__ c_Draft___init__ k_Draft___init__,
    M_Draft := ⟨mk_Draft, a_Draft___init__, fn_Draft___init__, kp_Draft⟩,
    b_Draft___init__ := (fun_mk (st := s_Draft___init__) l_Draft___init__ c_Draft___init__ k_Draft___init__).binds (ps := ["self", "selector", "argc", "count", "stack", "code", "literals"]) fun _ _ _ _ _ _ us hl => match us, hl with | [_, _, _, _, _, _, _], _ => rfl,
    f_declared := fdeclared, fd_declared := _, F_declared := fun_mk (st := s_declared) l_declared c_declared k_declared,
    g_declared := PySem.W.mg_of X G a_declared,
    b_declared := (fun_mk (st := s_declared) l_declared c_declared k_declared).binds (ps := ["params", "temps"]) fun _ _ _ _ _ _ us hl => match us, hl with | [_, _], _ => rfl,
    f_Coder___init__ := fCoder___init__, fd_Coder___init__ := _, F_Coder___init__ := fun_mk (st := s_Coder___init__) l_Coder___init__ c_Coder___init__ k_Coder___init__,
    M_Coder := ⟨mk_Coder, a_Coder___init__, fn_Coder___init__, kp_Coder⟩,
    b_Coder___init__ := (fun_mk (st := s_Coder___init__) l_Coder___init__ c_Coder___init__ k_Coder___init__).binds (ps := ["self", "fields", "globals_known"]) fun _ _ _ _ _ _ us hl => match us, hl with | [_, _, _], _ => rfl,
    f_Coder_emit := fCoder_emit, fd_Coder_emit := _, FD_Coder_emit := (⟨⟨_, _, _, _, _, _, _, _, _, _, rfl, l_Coder_emit, c_Coder_emit, Or.inr ⟨by simp, _, _, _, _, rfl, dl_Coder_emit, rfl, (.cons ⟨_, rfl⟩ .nil)⟩, Or.inl rfl⟩, k_Coder_emit⟩ : FunD K "emit" "Coder.emit" (defArgs s_Coder_emit) (defBody s_Coder_emit) (defScope s_Coder_emit) [.int (0)] [] fCoder_emit _),
    bd_Coder_emit := (⟨⟨_, _, _, _, _, _, _, _, _, _, rfl, l_Coder_emit, c_Coder_emit, Or.inr ⟨by simp, _, _, _, _, rfl, dl_Coder_emit, rfl, (.cons ⟨_, rfl⟩ .nil)⟩, Or.inl rfl⟩, k_Coder_emit⟩ : FunD K "emit" "Coder.emit" (defArgs s_Coder_emit) (defBody s_Coder_emit) (defScope s_Coder_emit) [.int (0)] [] fCoder_emit _).binds1 2 0 (by simp) rfl (fun T kV doc pm an cdv ct us its h1 h2 => match us, h1, its, h2 with | [_, _], _, [_], _ => ⟨_, rfl, by first | rfl | with_unfolding_all rfl | kernel_rfl⟩),
    m_Coder_emit := ⟨a_Coder_emit, fn_Coder_emit, k_Coder_emit⟩,
    b_Coder_emit := by obtain ⟨ds, v, b⟩ := (⟨⟨_, _, _, _, _, _, _, _, _, _, rfl, l_Coder_emit, c_Coder_emit, Or.inr ⟨by simp, _, _, _, _, rfl, dl_Coder_emit, rfl, (.cons ⟨_, rfl⟩ .nil)⟩, Or.inl rfl⟩, k_Coder_emit⟩ : FunD K "emit" "Coder.emit" (defArgs s_Coder_emit) (defBody s_Coder_emit) (defScope s_Coder_emit) [.int (0)] [] fCoder_emit _).binds1 (ps := ["self", "op", "arg"]) 3 1 (by simp) rfl (fun T kV doc pm an cdv ct us its h1 h2 => match us, h1, its, h2 with | [_, _, _], _, [_], _ => ⟨_, rfl, by first | rfl | with_unfolding_all rfl | kernel_rfl⟩); cases v; exact b,
    f_Coder_here := fCoder_here, fd_Coder_here := _, F_Coder_here := fun_mk (st := s_Coder_here) l_Coder_here c_Coder_here k_Coder_here,
    m_Coder_here := ⟨a_Coder_here, fn_Coder_here, k_Coder_here⟩,
    b_Coder_here := (fun_mk (st := s_Coder_here) l_Coder_here c_Coder_here k_Coder_here).binds (ps := ["self"]) fun _ _ _ _ _ _ us hl => match us, hl with | [_], _ => rfl,
    f_Coder_aim := fCoder_aim, fd_Coder_aim := _, F_Coder_aim := fun_mk (st := s_Coder_aim) l_Coder_aim c_Coder_aim k_Coder_aim,
    m_Coder_aim := ⟨a_Coder_aim, fn_Coder_aim, k_Coder_aim⟩,
    b_Coder_aim := (fun_mk (st := s_Coder_aim) l_Coder_aim c_Coder_aim k_Coder_aim).binds (ps := ["self", "place"]) fun _ _ _ _ _ _ us hl => match us, hl with | [_, _], _ => rfl,
    f_Coder_literal := fCoder_literal, fd_Coder_literal := _, F_Coder_literal := fun_mk (st := s_Coder_literal) l_Coder_literal c_Coder_literal k_Coder_literal,
    m_Coder_literal := ⟨a_Coder_literal, fn_Coder_literal, k_Coder_literal⟩,
    b_Coder_literal := (fun_mk (st := s_Coder_literal) l_Coder_literal c_Coder_literal k_Coder_literal).binds (ps := ["self", "literal"]) fun _ _ _ _ _ _ us hl => match us, hl with | [_, _], _ => rfl,
    f_Coder_name := fCoder_name, fd_Coder_name := _, F_Coder_name := fun_mk (st := s_Coder_name) l_Coder_name c_Coder_name k_Coder_name,
    m_Coder_name := ⟨a_Coder_name, fn_Coder_name, k_Coder_name⟩,
    b_Coder_name := (fun_mk (st := s_Coder_name) l_Coder_name c_Coder_name k_Coder_name).binds (ps := ["self", "name", "at"]) fun _ _ _ _ _ _ us hl => match us, hl with | [_, _, _], _ => rfl,
    f_Coder_assign := fCoder_assign, fd_Coder_assign := _, F_Coder_assign := fun_mk (st := s_Coder_assign) l_Coder_assign c_Coder_assign k_Coder_assign,
    m_Coder_assign := ⟨a_Coder_assign, fn_Coder_assign, k_Coder_assign⟩,
    b_Coder_assign := (fun_mk (st := s_Coder_assign) l_Coder_assign c_Coder_assign k_Coder_assign).binds (ps := ["self", "name", "at"]) fun _ _ _ _ _ _ us hl => match us, hl with | [_, _, _], _ => rfl,
    f_Coder_sequence := fCoder_sequence, fd_Coder_sequence := _, F_Coder_sequence := fun_mk (st := s_Coder_sequence) l_Coder_sequence c_Coder_sequence k_Coder_sequence,
    m_Coder_sequence := ⟨a_Coder_sequence, fn_Coder_sequence, k_Coder_sequence⟩,
    b_Coder_sequence := (fun_mk (st := s_Coder_sequence) l_Coder_sequence c_Coder_sequence k_Coder_sequence).binds (ps := ["self", "statements", "in_method"]) fun _ _ _ _ _ _ us hl => match us, hl with | [_, _, _], _ => rfl,
    f_Coder_message := fCoder_message, fd_Coder_message := _, F_Coder_message := fun_mk (st := s_Coder_message) l_Coder_message c_Coder_message k_Coder_message,
    m_Coder_message := ⟨a_Coder_message, fn_Coder_message, k_Coder_message⟩,
    b_Coder_message := (fun_mk (st := s_Coder_message) l_Coder_message c_Coder_message k_Coder_message).binds (ps := ["self", "op", "selector", "args"]) fun _ _ _ _ _ _ us hl => match us, hl with | [_, _, _, _], _ => rfl,
    f_Coder_send := fCoder_send, fd_Coder_send := _, F_Coder_send := fun_mk (st := s_Coder_send) l_Coder_send c_Coder_send k_Coder_send,
    m_Coder_send := ⟨a_Coder_send, fn_Coder_send, k_Coder_send⟩,
    b_Coder_send := (fun_mk (st := s_Coder_send) l_Coder_send c_Coder_send k_Coder_send).binds (ps := ["self", "receiver", "selector", "args"]) fun _ _ _ _ _ _ us hl => match us, hl with | [_, _, _, _], _ => rfl,
    f_Coder_block := fCoder_block, fd_Coder_block := _, F_Coder_block := fun_mk (st := s_Coder_block) l_Coder_block c_Coder_block k_Coder_block,
    m_Coder_block := ⟨a_Coder_block, fn_Coder_block, k_Coder_block⟩,
    b_Coder_block := (fun_mk (st := s_Coder_block) l_Coder_block c_Coder_block k_Coder_block).binds (ps := ["self", "params", "temps", "statements"]) fun _ _ _ _ _ _ us hl => match us, hl with | [_, _, _, _], _ => rfl,
    f_Coder_expression := fCoder_expression, fd_Coder_expression := _, F_Coder_expression := fun_mk (st := s_Coder_expression) l_Coder_expression c_Coder_expression k_Coder_expression,
    m_Coder_expression := ⟨a_Coder_expression, fn_Coder_expression, k_Coder_expression⟩,
    b_Coder_expression := (fun_mk (st := s_Coder_expression) l_Coder_expression c_Coder_expression k_Coder_expression).binds (ps := ["self", "tree"]) fun _ _ _ _ _ _ us hl => match us, hl with | [_, _], _ => rfl,
    f_greatest_height := fgreatest_height, fd_greatest_height := _, F_greatest_height := fun_mk (st := s_greatest_height) l_greatest_height c_greatest_height k_greatest_height,
    g_greatest_height := PySem.W.mg_of X G a_greatest_height,
    b_greatest_height := (fun_mk (st := s_greatest_height) l_greatest_height c_greatest_height k_greatest_height).binds (ps := ["code", "start", "blocks"]) fun _ _ _ _ _ _ us hl => match us, hl with | [_, _, _], _ => rfl,
    f_with_stacks := fwith_stacks, fd_with_stacks := _, F_with_stacks := fun_mk (st := s_with_stacks) l_with_stacks c_with_stacks k_with_stacks,
    g_with_stacks := PySem.W.mg_of X G a_with_stacks,
    b_with_stacks := (fun_mk (st := s_with_stacks) l_with_stacks c_with_stacks k_with_stacks).binds (ps := ["code", "literals"]) fun _ _ _ _ _ _ us hl => match us, hl with | [_, _], _ => rfl,
    f_compile_method := fcompile_method, fd_compile_method := _, F_compile_method := fun_mk (st := s_compile_method) l_compile_method c_compile_method k_compile_method,
    g_compile_method := PySem.W.mg_of X G a_compile_method,
    b_compile_method := (fun_mk (st := s_compile_method) l_compile_method c_compile_method k_compile_method).binds (ps := ["tree", "fields", "globals_known"]) fun _ _ _ _ _ _ us hl => match us, hl with | [_, _, _], _ => rfl,
    f__law_cell := f_law_cell, fd__law_cell := _, F__law_cell := fun_mk (st := s__law_cell) l__law_cell c__law_cell k__law_cell,
    g__law_cell := PySem.W.mg_of X G a__law_cell,
    b__law_cell := (fun_mk (st := s__law_cell) l__law_cell c__law_cell k__law_cell).binds (ps := ["_law_script", "_law_k"]) fun _ _ _ _ _ _ us hl => match us, hl with | [_, _], _ => rfl,
    f__law_told := f_law_told, fd__law_told := _, F__law_told := fun_mk (st := s__law_told) l__law_told c__law_told k__law_told,
    g__law_told := PySem.W.mg_of X G a__law_told,
    b__law_told := (fun_mk (st := s__law_told) l__law_told c__law_told k__law_told).binds (ps := ["_law_tree"]) fun _ _ _ _ _ _ us hl => match us, hl with | [_], _ => rfl,
    f_law := flaw, fd_law := _, F_law := fun_mk (st := s_law) l_law c_law k_law,
    g_law := PySem.W.mg_of X G a_law,
    b_law := (fun_mk (st := s_law) l_law c_law k_law).binds (ps := ["_law_script"]) fun _ _ _ _ _ _ us hl => match us, hl with | [_], _ => rfl,
    em_TT := qem_TT,
    em_OT := qem_OT,
    em_OO := qem_OO }
section
variable {P : Program} {w : World} {K : PySem.W.Frag} {mg : Str → Option Value} {base : Heap}
theorem ok_Oversized___init__ (W : Wd P K mg) : FnOk P w K mg base CX0 1 W.f_Oversized___init__ W.fd_Oversized___init__ ["self", "limit"] (sp_exc1 W.c_Oversized "limit") := by
  obtain ⟨oc, od, kV, dc, pm, an, ct, osl, lk, efd, hcd⟩ := W.L_Oversized
  rw [efd] at lk ⊢
  refine fn_sup lk hcd ns_Oversized___init__ W.S_Oversized rfl rfl (pl := fun env => plainOf _ env) (fun L => rfl) (fun env => rfl) (fun env => rfl) (fun L => rfl) (fun L => rfl) (fun vs H Q E h => ?_) (fun A outer s H vs Q E hr h => ?_)
  · obtain ⟨a, x, rfl, _⟩ := h
    rfl
  · obtain ⟨a, x, rfl, hx, ha, k⟩ := h
    refine ⟨_, _, (pa_cons (pe_callTy call_strU (by rfl) W.n_str bb_str (pa_cons (pv 1) pa_nil)) pa_nil), pss_one (ps_ost (pv 0) (pv 1)), ?_⟩
    refine ⟨a, rfl, ha, ?_⟩
    have fin : sizeLine ≥ 1 := (by show 1 ≤ sizeLine; decide)
    cases x with
    | int i => exact ⟨_, rfl, hx, fin, ha, _, rfl, _, rfl, a, _, rfl, W.X_Oversized, W.xn_Oversized_limit, Or.inl ⟨ha, fun dx h1 h2 => k dx h1 h2⟩⟩
    | str z => exact ⟨_, rfl, fin, ha, _, rfl, _, rfl, a, _, rfl, W.X_Oversized, W.xn_Oversized_limit, Or.inl ⟨ha, fun dx h1 h2 => k dx h1 h2⟩⟩
    | _ => exact hx.elim
theorem ok_Twice___init__ (W : Wd P K mg) : FnOk P w K mg base CX0 1 W.f_Twice___init__ W.fd_Twice___init__ ["self", "name", "at"] (sp_exc2 W.c_Twice "name" "at") := by
  obtain ⟨oc, od, kV, dc, pm, an, ct, osl, lk, efd, hcd⟩ := W.L_Twice
  rw [efd] at lk ⊢
  refine fn_sup lk hcd ns_Twice___init__ W.S_Twice rfl rfl (pl := fun env => plainOf _ env) (fun L => rfl) (fun env => rfl) (fun env => rfl) (fun L => rfl) (fun L => rfl) (fun vs H Q E h => ?_) (fun A outer s H vs Q E hr h => ?_)
  · obtain ⟨a, z, i, rfl, _⟩ := h
    rfl
  · obtain ⟨a, z, i, rfl, hz, hi, ha, k⟩ := h
    refine ⟨_, _, (pa_cons (pe_op op_addU (pe_op op_addU (pe_callTy call_strU (by rfl) W.n_str bb_str (pa_cons (pv 1) pa_nil)) (pe_strT (show (PySem.Str.ofString " ") = T [32] by decide +kernel))) (pe_callTy call_strU (by rfl) W.n_str bb_str (pa_cons (pv 2) pa_nil))) pa_nil), pss_cons (ps_ost (pv 0) (pv 1)) (pss_one (ps_ost (pv 0) (pv 2))), ?_⟩
    refine ⟨a, rfl, ha, _, rfl, exc2_l1 hz, _, rfl, hi, exc2_l2 hz hi, (by show 1 ≤ sizeLine; decide), ha, ?_⟩
    exact ⟨_, rfl, _, rfl, a, _, rfl, W.X_Twice, W.xn_Twice_name, Or.inl ⟨ha, fun dx h1 h2 => ⟨_, rfl, _, rfl, a, _, rfl, W.X_Twice, W.xn_Twice_at, Or.inr ⟨dx, _, upd_same, by rw [upd_ne h2]; exact upd_same, (by show 1 ≤ 900; decide), k dx h1 h2⟩⟩⟩⟩
end

end LX
namespace LX
open PySem PySem.Spec PyProof.Rows L2 NdefX
set_option hygiene false in
local macro_rules | `(tactic| k_memK) => `(tactic| first | exact W.na_Draft_selector | exact W.na_Draft_argc | exact W.na_Draft_locals | exact W.na_Draft_stack | exact W.na_Draft_code | exact W.na_Draft_literals | exact W.na_Coder_fields | exact W.na_Coder_globals_known | exact W.na_Coder_code | exact W.na_Coder_literals | exact W.na_Coder_scopes)
set_option hygiene false in
local macro_rules | `(tactic| k_ownIn) => `(tactic| first | exact W.C_Draft | exact W.C_Coder)
local macro_rules | `(tactic| none_booked) => `(tactic| first | assumption | (refine Fr.g0 (by assumption) ?_; none_booked))
local macro_rules | `(tactic| one_sign) => `(tactic| repeat (first
  | refine Stp.h ?_
  | ((with_reducible refine' z_fld1 ?k0 ?k1 ?k2 ?k3 ?_); (case k0 => none_booked); (case k1 => k_ownIn); (case k2 => k_memK); (case k3 => rfl))
  | ((with_reducible refine' z_meth1 ?k0 ?k1 ?_); (case k0 => none_booked); (case k1 => rfl))
  | ((with_reducible refine' z_bmL ?k0 ?_); (case k0 => none_booked))
  | ((with_reducible refine' z_lenL ?k0 ?_); (case k0 => none_booked))
  | ((with_reducible refine' z_lenT ?k0 ?_); (case k0 => none_booked))
  | ((with_reducible refine' z_lenD ?k0 ?_); (case k0 => none_booked))
  | ((with_reducible refine' z_truL ?k0 ?_); (case k0 => none_booked))
  | ((with_reducible refine' z_truD ?k0 ?_); (case k0 => none_booked))
  | ((with_reducible refine' z_truT ?k0 ?_); (case k0 => none_booked))
  | ((with_reducible refine' z_inDIP ?k0 ?_); (case k0 => none_booked))
  | ((with_reducible refine' z_inDIN ?k0 ?_); (case k0 => none_booked))
  | ((with_reducible refine' z_inDfP ?k0 ?_); (case k0 => none_booked))
  | ((with_reducible refine' z_inDfN ?k0 ?_); (case k0 => none_booked))
  | ((with_reducible refine' z_iList1 ?k0 ?_); (case k0 => none_booked))
  | ((with_reducible refine' z_isi0 ?k0 ?k1 ?k2 ?_); (case k0 => exact (ClsV.ty _)); (case k1 => exact (TyX.base (TyOf.lst (by none_booked)))); (case k2 => first | exact kt_list_int | exact kt_list_bool | exact kt_list_str | exact kt_list_list | exact kt_list_tuple | exact kt_list_dict))
  | ((with_reducible refine' z_rI ?k0 ?_); (case k0 => first | exact (by decide : (0 : Int) < _) | exact ⟨by decide, by decide⟩ | exact ⟨by decide, by decide, by decide⟩ | (show (0 : Int) < _; omega)))
  | ((with_reducible refine' z_mulI ?k0 ?_); (case k0 => first | exact Or.inr ⟨by decide, by decide⟩ | exact Or.inl ⟨by decide, by decide⟩ | exact Or.inl ⟨by omega, by omega⟩ | exact Or.inr ⟨by omega, by omega⟩))))
local macro_rules | `(tactic| leaf_len) => `(tactic| (simp only [wipe, List.map_cons, List.map_nil, List.set_cons_zero, List.set_cons_succ]; one_sign; refine z_ok rfl ?_; one_sign))
/-- a row of pairs (a text, an int) in the heap -/
def PrAt (H : Hp) (A : List Addr) (ps : List (Str × Int)) : Prop := A.length = ps.length ∧ ∀ (i : Nat) (a : Addr) (z : Str) (n : Int), A[i]? = some a → ps[i]? = some (z, n) → H a = some (.tup [.str z, .int n])
theorem PrAt.keep {H H' : Hp} {A : List Addr} {ps : List (Str × Int)} (h : PrAt H A ps) (f : Fr [] H H') : PrAt H' A ps := ⟨h.1, fun i a z n (h1 : A[i]? = some a) (h2 : ps[i]? = some (z, n)) => f.g0 (h.2 i a z n h1 h2)⟩
theorem ref_at {A : List Addr} {i : Nat} {a : Addr} (h : A[i]? = some a) : (A.map V.ref)[i]? = some (.ref a) := by rw [List.getElem?_map, h]; rfl
def nms (ps : List (Str × Int)) : List Str := ps.map (·.1)
/-- short names and places -/
def PrOk (ps : List (Str × Int)) : Prop := ps.length ≤ 1000 ∧ ∀ p ∈ ps, p.1.length ≤ 1000 ∧ p.2.natAbs.log2 < 1920
theorem putK_len {kvs : List (Key × V)} {k : Key} {v : V} (h : valV kvs k = none) : putK kvs k v = kvs ++ [(k, v)] := putK_new _ h
theorem val_some : ∀ {kvs : List (Key × V)} {k : Key}, k ∈ kvs.map (·.1) → (valV kvs k).isSome = true
  | (x, v) :: kvs, k, h => by
    by_cases e : x = k
    · rw [valV_pos (p := (x, v)) e]; rfl
    · rw [valV_neg (p := (x, v)) e]
      exact val_some ((List.mem_cons.mp h).resolve_left fun z => e z.symm)
theorem val_none : ∀ {kvs : List (Key × V)} {k : Key}, k ∉ kvs.map (·.1) → valV kvs k = none
  | [], _, _ => rfl
  | (x, v) :: kvs, k, h => by
    rw [valV_neg (p := (x, v)) fun z => h (by rw [← show x = k from z]; exact List.mem_cons_self)]
    exact val_none fun z => h (List.mem_cons_of_mem _ z)
section
variable {P : Program} {w : World} {K : PySem.W.Frag} {mg : Str → Option Value} {base : Heap}
theorem z_listT {H : Hp} {p : Addr} {ys : List V} {Q : VK} (h1 : H p = some (.tup ys)) (h : ∀ l H1, H l = none → Fr [] H H1 → H1 l = some (.lst ys) → Q (.ref l) H1) : rListU K [V.ref p] H Q := ⟨p, ys, rfl, Or.inr (SqT.of h1), fun l hl => h l _ hl (Fr.new hl) upd_same⟩
def sp_declared (cT cO : Addr) : Sp := fun vs H Q E => ∃ pa ta A B ps, vs = [.ref pa, .ref ta] ∧ H pa = some (.tup (A.map V.ref)) ∧ H ta = some (.tup (B.map V.ref)) ∧ PrAt H (A ++ B) ps ∧ PrOk ps ∧
  (∀ j z n, ps[j]? = some (z, n) → (nms (ps.take j)).Nodup → z ∈ nms (ps.take j) → ∀ H' d, Fr [] H H' → H' d = none → E (.ref cT) (some d) (L2.upd H' d (.xd [("at", .int n), ("name", .str z)]))) ∧
  ((nms ps).Nodup → 255 < ps.length → ∀ H' d, Fr [] H H' → H' d = none → E (.ref cO) (some d) (L2.upd H' d (.xd [("limit", .str (T [108, 111, 99, 97, 108, 115]))]))) ∧
  ((nms ps).Nodup → ps.length ≤ 255 → ∀ H' d kvs, Fr [] H H' → H' d = some (.dK kvs) → kvs.length = ps.length → H d = none → Q (.ref d) H')
theorem ok_declared (W : Wd P K mg) : FnOk P w K mg base (L2N.CX P w) 3 W.f_declared W.fd_declared ["params", "temps"] (sp_declared W.c_Twice W.c_Oversized) := by
  refine okN W.F_declared sc_declared (fun vs H Q E h => by obtain ⟨pa, ta, A, B, ps, rfl, hpa, hta, hP, ok, kT, kO, kQ⟩ := h; rfl) (fun cdv A outer s H vs Q E hr h => ?_)
  obtain ⟨pa, ta, A, B, ps, rfl, hpa, hta, hP, ok, kT, kO, kQ⟩ := h
  have hu1 := hu_of hr
  have hu64 := hu64_of hr
  refine ⟨_, (pss_cons (ps_set (i := 2) sc_declared.nd rfl (by first | exact Or.inl rfl | exact Or.inr rfl) (pe_op op_addU (pe_callTy call_listU (by rfl) W.n_list bb_list (pa_cons (pv 0) pa_nil)) (pe_callTy call_listU (by rfl) W.n_list bb_list (pa_cons (pv 1) pa_nil))))
      (pss_cons (ps_set (i := 3) sc_declared.nd rfl (by first | exact Or.inl rfl | exact Or.inr rfl) pe_dnewK)
      (pss_cons (ps_for (passes_of rfl) rfl (pi_range1 (by rfl) W.n_range (pa_cons (pe_callB call_lenU (by rfl) W.n_len bb_len (pa_cons (pv 2) pa_nil)) pa_nil)) (pg_name (i := 4) sc_declared.nd rfl (by first | exact Or.inl rfl | exact Or.inr rfl)) (pss_cons (ps_asg (pe_ix (ix_U hu1) (pv 2) (pv 4) (fun _ _ => rfl)) (pg_tup rfl (pgs_cons (pg_name (i := 5) sc_declared.nd rfl (by first | exact Or.inl rfl | exact Or.inr rfl)) (pgs_cons (pg_name (i := 6) sc_declared.nd rfl (by first | exact Or.inl rfl | exact Or.inr rfl)) pgs_nil))))
      (pss_cons (ps_if (pt_cmpR (op_inU hu1) (pv 5) (pv 3) (by first | exact nomark _ | rfl)) (pss_one (L2N.ps_raise rfl (L2N.takes_of rfl rfl rfl rfl) (pmk_x W.X_Twice W.i_Twice (ok_Twice___init__ W) (hr.mono (by decide)) W.b_Twice___init__ pass0 rfl W.g_Twice (pa_cons (pv 5) (pa_cons (pv 6) pa_nil))))) pss_nil)
      (pss_one (ps_dput hu1 (pv 3) (pv 5) (pe_tup (pa_cons (pv 4) (pa_cons (pe_cmpR op_ltU (pv 4) (pe_callB call_lenU (by rfl) W.n_len bb_len (pa_cons (pv 0) pa_nil)) (by first | exact nomark _ | rfl)) pa_nil))) rfl)))))
      (pss_cons (ps_if (pt_cmpR op_gtU (pe_callB call_lenU (by rfl) W.n_len bb_len (pa_cons (pv 2) pa_nil)) (pe_gi rfl W.g_MOST_LOCALS) (by first | exact nomark _ | rfl)) (pss_one (L2N.ps_raise rfl (L2N.takes_of rfl rfl rfl rfl) (pmk_x W.X_Oversized W.i_Oversized (ok_Oversized___init__ W) (hr.mono (by decide)) W.b_Oversized___init__ pass0 rfl W.g_Oversized (pa_cons (pe_strT (show (PySem.Str.ofString "locals") = T [108, 111, 99, 97, 108, 115] by decide +kernel)) pa_nil)))) pss_nil)
      (pss_one (ps_ret (pv 3))))))), ?_⟩
  refine z_start (σ := [some _, some _, none, none, none, none, none]) rfl ?_
  one_sign
  have f0 : Fr [] H H := Fr.rfl'
  refine z_listT hpa fun l1 H1 hl1 f1 e1 => ?_
  one_sign
  refine z_listT (f1.g0 hta) fun l2 H2 hl2 f2 e2 => ?_
  have hab : A.length + B.length = ps.length := by rw [← List.length_append]; exact hP.1
  refine z_addL (f2.g0 e1) e2 (by rw [List.length_map, List.length_map, sizeLine_eq]; have := ok.1; omega) fun pl H3 hpl f3 e3 => ?_
  rw [← List.map_append] at e3
  one_sign
  intro d H4 hd f4 e4
  have hl : (List.map V.ref (A ++ B)).length = ps.length := by rw [List.length_map]; exact hP.1
  have e3' := f4.g0 e3
  have F4 : Fr [] H H4 := (f1.trans f2).trans (f3.trans f4)
  have hpa4 := F4.g0 hpa
  have hP4 := hP.keep F4
  have hdn : H d = none := ((f1.trans f2).trans f3).none hd
  one_sign
  rw [hl]
  refine z_rng1 ps.length rfl (by have := ok.1; omega) ?_
  refine for_range (lo := 0) (n := ps.length) (fun i σ H' => ∃ (v4 v5 v6 : Option V) (kvs : List (Key × V)), σ = [some (.ref pa), some (.ref ta), some (.ref pl), some (.ref d), v4, v5, v6] ∧ H' d = some (.dK kvs) ∧ kvs.map (·.1) = (nms (ps.take i)).map Sum.inr ∧ (nms (ps.take i)).Nodup ∧ Fr [d] H4 H')
    ⟨_, _, _, _, rfl, e4, rfl, List.nodup_nil, Fr.rfl'⟩ (fun i σ H5 hi hI => ?_) (fun σ H5 hI => ?_)
  · obtain ⟨v4, v5, v6, kvs, rfl, e5, hk, hn, f5⟩ := hI
    obtain ⟨a, ha⟩ : ∃ a, (A ++ B)[i]? = some a := ⟨_, List.getElem?_eq_getElem (by rw [hP.1]; exact hi)⟩
    obtain ⟨⟨z, n⟩, hz⟩ : ∃ p, ps[i]? = some p := ⟨_, List.getElem?_eq_getElem hi⟩
    have hzo := ok.2 _ (List.mem_of_getElem? hz)
    have e5' := f5.g e3' (nin (ne_of e3' e4 (by intro z; cases z)))
    have ha4 := hP4.2 i a z n ha hz
    have ha5 := f5.g ha4 (nin (ne_of ha4 e4 (by intro z; cases z)))
    have hpa5 := f5.g hpa4 (nin (ne_of hpa4 e4 (by intro z; cases z)))
    one_sign
    refine z_ixL e5' (by rw [Int.zero_add]; exact atI_nat (ref_at ha)) ?_
    one_sign
    refine z_gtup ha5 rfl ?_
    one_sign
    refine z_inDSP e5 ?_
    by_cases hm : z ∈ nms (ps.take i)
    · rw [val_some (by rw [hk]; exact List.mem_map_of_mem hm)]
      refine ⟨_, rfl, iteT ?_⟩
      refine ⟨_, rfl, _, rfl, exc2_mk hzo.1 hzo.2 fun dx hdx => ?_⟩
      exact kT i z n hz hn hm H5 dx (F4.in f5 hdn) hdx
    · have hv : valV kvs (.inr z) = none := val_none (by rw [hk]; intro q; obtain ⟨y, hy, e⟩ := List.mem_map.mp q; cases e; exact hm hy)
      rw [hv]
      refine ⟨_, rfl, iteF ?_⟩
      one_sign
      rw [List.length_map]
      one_sign
      refine z_newL (by show 2 ≤ sizeLine; decide) fun q H6 hq f6 q6 => ?_
      have e6 := f6.g0 e5
      one_sign
      refine z_dputS e6 (by have := congrArg List.length hk; rw [List.length_map, List.length_map, nms, List.length_map, List.length_take] at this; rw [sizeLine_eq]; have := ok.1; omega) fun H7 f7 e7 n7 => ?_
      one_sign
      rw [putK_new _ hv] at e7
      have et : nms (ps.take (i + 1)) = nms (ps.take i) ++ [z] := by
        unfold nms
        rw [List.take_succ, hz]
        simp
      refine ⟨_, _, _, _, rfl, e7, ?_, ?_, (f5.trans (f6.mono (by simp))).trans f7⟩
      · rw [List.map_append, hk, et, List.map_append]; rfl
      · rw [et]; exact nd_snoc hn hm
  obtain ⟨v4, v5, v6, kvs, rfl, e5, hk, hn, f5⟩ := hI
  rw [List.take_length] at hk hn
  have hkl : kvs.length = ps.length := by have := congrArg List.length hk; rw [List.length_map, List.length_map] at this; rw [this]; exact List.length_map ..
  have e5' := f5.g e3' (nin (ne_of e3' e4 (by intro z; cases z)))
  one_sign
  rw [hl]
  refine iteD (fun h => ?_) (fun h => ?_)
  · refine exc1_mk True.intro fun dx hdx => ?_
    exact kO hn (by omega) H5 dx (F4.in f5 hdn) hdx
  · one_sign
    exact kQ hn (by omega) H5 d kvs (F4.in f5 hdn) e5 hkl hdn
end

end LX
namespace LX
open PySem PySem.Spec PyProof.Rows L2 NdefX
set_option hygiene false in
local macro_rules | `(tactic| k_memK) => `(tactic| first | exact W.na_Draft_selector | exact W.na_Draft_argc | exact W.na_Draft_locals | exact W.na_Draft_stack | exact W.na_Draft_code | exact W.na_Draft_literals | exact W.na_Coder_fields | exact W.na_Coder_globals_known | exact W.na_Coder_code | exact W.na_Coder_literals | exact W.na_Coder_scopes)
set_option hygiene false in
local macro_rules | `(tactic| k_ownIn) => `(tactic| first | exact W.C_Draft | exact W.C_Coder)
local macro_rules | `(tactic| none_booked) => `(tactic| first | assumption | (refine Fr.g0 (by assumption) ?_; none_booked))
local macro_rules | `(tactic| one_sign) => `(tactic| repeat (first
  | refine Stp.h ?_
  | ((with_reducible refine' z_fld1 ?k0 ?k1 ?k2 ?k3 ?_); (case k0 => none_booked); (case k1 => k_ownIn); (case k2 => k_memK); (case k3 => rfl))
  | ((with_reducible refine' z_meth1 ?k0 ?k1 ?_); (case k0 => none_booked); (case k1 => rfl))
  | ((with_reducible refine' z_bmL ?k0 ?_); (case k0 => none_booked))
  | ((with_reducible refine' z_lenL ?k0 ?_); (case k0 => none_booked))
  | ((with_reducible refine' z_lenT ?k0 ?_); (case k0 => none_booked))
  | ((with_reducible refine' z_lenD ?k0 ?_); (case k0 => none_booked))
  | ((with_reducible refine' z_truL ?k0 ?_); (case k0 => none_booked))
  | ((with_reducible refine' z_truD ?k0 ?_); (case k0 => none_booked))
  | ((with_reducible refine' z_truT ?k0 ?_); (case k0 => none_booked))
  | ((with_reducible refine' z_inDIP ?k0 ?_); (case k0 => none_booked))
  | ((with_reducible refine' z_inDIN ?k0 ?_); (case k0 => none_booked))
  | ((with_reducible refine' z_inDfP ?k0 ?_); (case k0 => none_booked))
  | ((with_reducible refine' z_inDfN ?k0 ?_); (case k0 => none_booked))
  | ((with_reducible refine' z_iList1 ?k0 ?_); (case k0 => none_booked))
  | ((with_reducible refine' z_isi0 ?k0 ?k1 ?k2 ?_); (case k0 => exact (ClsV.ty _)); (case k1 => exact (TyX.base (TyOf.lst (by none_booked)))); (case k2 => first | exact kt_list_int | exact kt_list_bool | exact kt_list_str | exact kt_list_list | exact kt_list_tuple | exact kt_list_dict))
  | ((with_reducible refine' z_rI ?k0 ?_); (case k0 => first | exact (by decide : (0 : Int) < _) | exact ⟨by decide, by decide⟩ | exact ⟨by decide, by decide, by decide⟩ | (show (0 : Int) < _; omega)))
  | ((with_reducible refine' z_mulI ?k0 ?_); (case k0 => first | exact Or.inr ⟨by decide, by decide⟩ | exact Or.inl ⟨by decide, by decide⟩ | exact Or.inl ⟨by omega, by omega⟩ | exact Or.inr ⟨by omega, by omega⟩))))
local macro_rules | `(tactic| leaf_len) => `(tactic| (simp only [wipe, List.map_cons, List.map_nil, List.set_cons_zero, List.set_cons_succ]; one_sign; refine z_ok rfl ?_; one_sign))
def PUSHs : List V := [.str (T [108, 111, 99, 97, 108]), .str (T [111, 117, 116, 101, 114]), .str (T [102, 105, 101, 108, 100]), .str (T [108, 105, 116, 101, 114, 97, 108]), .str (T [103, 108, 111, 98, 97, 108]), .str (T [115, 101, 108, 102]), .str (T [110, 105, 108]), .str (T [116, 114, 117, 101]), .str (T [102, 97, 108, 115, 101]), .str (T [98, 108, 111, 99, 107]), .str (T [100, 117, 112])]
def SENDs : List V := [.str (T [115, 101, 110, 100]), .str (T [115, 117, 112, 101, 114, 95, 115, 101, 110, 100])]
def ENDs : List V := [.str (T [114, 101, 116, 117, 114, 110]), .str (T [108, 101, 97, 118, 101])]
def POPs : List V := [.str (T [112, 111, 112]), .str (T [106, 117, 109, 112, 95, 102, 97, 108, 115, 101]), .str (T [114, 101, 116, 117, 114, 110]), .str (T [108, 101, 97, 118, 101])]
def JMP : Str := T [106, 117, 109, 112]
def JMPF : Str := T [106, 117, 109, 112, 95, 102, 97, 108, 115, 101]
def chg (z : Str) : Int := if inV (.str z) PUSHs = true then 1 else if inV (.str z) POPs = true then -1 else 0
def plc (z : Str) (n k : Int) : List Int := if z = JMP then [n] else if z = JMPF then [k + 1, n] else if inV (.str z) ENDs = true then [] else [k + 1]
theorem iteB {b : Bool} {A B : Prop} (h1 : b = true → A) (h2 : ¬ b = true → B) : if b = true then A else B := by
  by_cases h : b = true
  · rw [if_pos h]; exact h1 h
  · rw [if_neg h]; exact h2 h
section
variable {P : Program} {w : World} {K : PySem.W.Frag} {mg : Str → Option Value} {base : Heap}
theorem z_inK {H : Hp} {p : Addr} {z : Str} {xs : List V} {Q : VK} (h1 : SqT K H p xs) (h3 : xs.all flatV = true) (h : Q (.bl (inV (.str z) xs)) H) : rInU K id (.str z) (.ref p) H Q := Or.inl ⟨xs, Or.inr h1, rfl, h3, h⟩
theorem z_inS {H : Hp} {p : Addr} {z : Str} {xs : List V} {Q : VK} (h1 : H p = some (.tup xs)) (h3 : xs.all flatV = true) (h : Q (.bl (inV (.str z) xs)) H) : rInU K id (.str z) (.ref p) H Q := Or.inl ⟨xs, Or.inr (SqT.of h1), rfl, h3, h⟩
def sp_change : Sp := fun vs H Q _ => ∃ z n, vs = [.str z, .int n] ∧ inV (.str z) SENDs = false ∧ ∀ H', Fr [] H H' → Q (.int (chg z)) H'
theorem ok_change_of (W : Wd P K mg) : FnOk P w K mg base CX0 1 W.f_change_of W.fd_change_of ["op", "arg"] sp_change := by
  refine W.F_change_of.ok sc_change_of (fun vs H Q E h => by obtain ⟨z, n, rfl, hs, k⟩ := h; rfl) (fun cdv A outer s H vs Q E hr h => ?_)
  obtain ⟨z, n, rfl, hs, k⟩ := h
  have hu1 := hu_of hr
  have hu64 := hu64_of hr
  refine ⟨_, (pss_cons (ps_if (pt_cmpR (op_inU hu1) (pv 0) (pe_gr rfl W.g_PUSHING) (by first | exact nomark _ | rfl)) (pss_one (ps_ret pe_int)) pss_nil)
      (pss_cons (ps_if (pt_cmpR (op_inU hu1) (pv 0) (pe_gr rfl W.g_SENDING) (by first | exact nomark _ | rfl)) (pss_one (ps_ret (pe_un un_neg (pe_op op_mod (pv 1) pe_int)))) pss_nil)
      (pss_cons (ps_if (pt_cmpR (op_inU hu1) (pv 0) (pe_tup (pa_cons (pe_strT (show (PySem.Str.ofString "pop") = T [112, 111, 112] by decide +kernel)) (pa_cons (pe_strT (show (PySem.Str.ofString "jump_false") = T [106, 117, 109, 112, 95, 102, 97, 108, 115, 101] by decide +kernel)) (pa_cons (pe_strT (show (PySem.Str.ofString "return") = T [114, 101, 116, 117, 114, 110] by decide +kernel)) (pa_cons (pe_strT (show (PySem.Str.ofString "leave") = T [108, 101, 97, 118, 101] by decide +kernel)) pa_nil))))) (by first | exact nomark _ | rfl)) (pss_one (ps_ret (pe_un un_neg pe_int))) pss_nil)
      (pss_one (ps_ret pe_int))))), ?_⟩
  refine z_start (σ := [some _, some _]) rfl ?_
  one_sign
  refine z_inK (xs := PUSHs) (W.tp_PUSHING _) rfl ⟨_, rfl, ?_⟩
  unfold chg at k
  refine iteB (fun h1 => ?_) (fun h1 => ?_)
  · rw [if_pos h1] at k
    exact k H Fr.rfl'
  rw [if_neg h1] at k
  one_sign
  refine z_inK (xs := SENDs) (W.tp_SENDING _) rfl ⟨_, rfl, ?_⟩
  refine iteB (fun h => by rw [hs] at h; cases h) (fun _ => ?_)
  one_sign
  refine z_newL (by show 4 ≤ sizeLine; decide) fun p H1 hp f1 p1 => ?_
  refine z_inS (xs := POPs) p1 rfl ⟨_, rfl, ?_⟩
  refine iteB (fun h2 => ?_) (fun h2 => ?_)
  · rw [if_pos h2] at k
    one_sign
    exact k H1 f1
  · rw [if_neg h2] at k
    one_sign
    exact k H1 f1
def sp_places : Sp := fun vs H Q _ => ∃ z n j, vs = [.str z, .int n, .int j] ∧ ∀ H' l, Fr [] H H' → H l = none → H' l = some (.lst ((plc z n j).map V.int)) → Q (.ref l) H'
theorem ok_places_behind (W : Wd P K mg) : FnOk P w K mg base CX0 1 W.f_places_behind W.fd_places_behind ["op", "arg", "at"] sp_places := by
  refine W.F_places_behind.ok sc_places_behind (fun vs H Q E h => by obtain ⟨z, n, j, rfl, k⟩ := h; rfl) (fun cdv A outer s H vs Q E hr h => ?_)
  obtain ⟨z, n, j, rfl, k⟩ := h
  have hu1 := hu_of hr
  have hu64 := hu64_of hr
  refine ⟨_, (pss_cons (ps_if (pt_cmpR (op_eqU hu64) (pv 0) (pe_strT (show (PySem.Str.ofString "jump") = T [106, 117, 109, 112] by decide +kernel)) (by first | exact nomark _ | rfl)) (pss_one (ps_ret (pe_lst (pa_cons (pv 1) pa_nil)))) pss_nil)
      (pss_cons (ps_if (pt_cmpR (op_eqU hu64) (pv 0) (pe_strT (show (PySem.Str.ofString "jump_false") = T [106, 117, 109, 112, 95, 102, 97, 108, 115, 101] by decide +kernel)) (by first | exact nomark _ | rfl)) (pss_one (ps_ret (pe_lst (pa_cons (pe_op op_addU (pv 2) pe_int) (pa_cons (pv 1) pa_nil))))) pss_nil)
      (pss_cons (ps_if (pt_cmpR (op_inU hu1) (pv 0) (pe_gr rfl W.g_ENDING) (by first | exact nomark _ | rfl)) (pss_one (ps_ret (pe_lst pa_nil))) pss_nil)
      (pss_one (ps_ret (pe_lst (pa_cons (pe_op op_addU (pv 2) pe_int) pa_nil))))))), ?_⟩
  refine z_start (σ := [some _, some _, some _]) rfl ?_
  one_sign
  unfold plc JMP JMPF at k
  refine iteD (fun h1 => ?_) (fun h1 => ?_)
  · rw [if_pos (h1)] at k
    one_sign
    exact z_newL (by show 1 ≤ sizeLine; decide) fun p H1 hp f1 p1 => k H1 p f1 hp p1
  rw [if_neg h1] at k
  one_sign
  refine iteD (fun h2 => ?_) (fun h2 => ?_)
  · rw [if_pos (h2)] at k
    one_sign
    exact z_newL (by show 2 ≤ sizeLine; decide) fun p H1 hp f1 p1 => k H1 p f1 hp p1
  rw [if_neg h2] at k
  one_sign
  refine z_inK (xs := ENDs) (W.tp_ENDING _) rfl ⟨_, rfl, ?_⟩
  refine iteB (fun h3 => ?_) (fun h3 => ?_)
  · rw [if_pos h3] at k
    one_sign
    exact z_newL (by show 0 ≤ sizeLine; decide) fun p H1 hp f1 p1 => k H1 p f1 hp p1
  · rw [if_neg h3] at k
    one_sign
    exact z_newL (by show 1 ≤ sizeLine; decide) fun p H1 hp f1 p1 => k H1 p f1 hp p1
end

end LX
namespace LX
open PySem PySem.Spec PyProof.Rows L2 NdefX
set_option hygiene false in
local macro_rules | `(tactic| k_memK) => `(tactic| first | exact W.na_Draft_selector | exact W.na_Draft_argc | exact W.na_Draft_locals | exact W.na_Draft_stack | exact W.na_Draft_code | exact W.na_Draft_literals | exact W.na_Coder_fields | exact W.na_Coder_globals_known | exact W.na_Coder_code | exact W.na_Coder_literals | exact W.na_Coder_scopes)
set_option hygiene false in
local macro_rules | `(tactic| k_ownIn) => `(tactic| first | exact W.C_Draft | exact W.C_Coder)
local macro_rules | `(tactic| none_booked) => `(tactic| first | assumption | (refine Fr.g0 (by assumption) ?_; none_booked))
local macro_rules | `(tactic| one_sign) => `(tactic| repeat (first
  | refine Stp.h ?_
  | ((with_reducible refine' z_fld1 ?k0 ?k1 ?k2 ?k3 ?_); (case k0 => none_booked); (case k1 => k_ownIn); (case k2 => k_memK); (case k3 => rfl))
  | ((with_reducible refine' z_meth1 ?k0 ?k1 ?_); (case k0 => none_booked); (case k1 => rfl))
  | ((with_reducible refine' z_bmL ?k0 ?_); (case k0 => none_booked))
  | ((with_reducible refine' z_lenL ?k0 ?_); (case k0 => none_booked))
  | ((with_reducible refine' z_lenT ?k0 ?_); (case k0 => none_booked))
  | ((with_reducible refine' z_lenD ?k0 ?_); (case k0 => none_booked))
  | ((with_reducible refine' z_truL ?k0 ?_); (case k0 => none_booked))
  | ((with_reducible refine' z_truD ?k0 ?_); (case k0 => none_booked))
  | ((with_reducible refine' z_truT ?k0 ?_); (case k0 => none_booked))
  | ((with_reducible refine' z_inDIP ?k0 ?_); (case k0 => none_booked))
  | ((with_reducible refine' z_inDIN ?k0 ?_); (case k0 => none_booked))
  | ((with_reducible refine' z_inDfP ?k0 ?_); (case k0 => none_booked))
  | ((with_reducible refine' z_inDfN ?k0 ?_); (case k0 => none_booked))
  | ((with_reducible refine' z_iList1 ?k0 ?_); (case k0 => none_booked))
  | ((with_reducible refine' z_isi0 ?k0 ?k1 ?k2 ?_); (case k0 => exact (ClsV.ty _)); (case k1 => exact (TyX.base (TyOf.lst (by none_booked)))); (case k2 => first | exact kt_list_int | exact kt_list_bool | exact kt_list_str | exact kt_list_list | exact kt_list_tuple | exact kt_list_dict))
  | ((with_reducible refine' z_rI ?k0 ?_); (case k0 => first | exact (by decide : (0 : Int) < _) | exact ⟨by decide, by decide⟩ | exact ⟨by decide, by decide, by decide⟩ | (show (0 : Int) < _; omega)))
  | ((with_reducible refine' z_mulI ?k0 ?_); (case k0 => first | exact Or.inr ⟨by decide, by decide⟩ | exact Or.inl ⟨by decide, by decide⟩ | exact Or.inl ⟨by omega, by omega⟩ | exact Or.inr ⟨by omega, by omega⟩))))
local macro_rules | `(tactic| leaf_len) => `(tactic| (simp only [wipe, List.map_cons, List.map_nil, List.set_cons_zero, List.set_cons_succ]; one_sign; refine z_ok rfl ?_; one_sign))
/-! ### the heights, plainly -/
def mx (i j : Int) : Int := if i < j then j else i
theorem nuMax2_int (i j : Int) : nuMax2 (V.int i) (V.int j) = some (V.int (mx i j)) := by
  unfold mx
  by_cases h : i < j
  · rw [if_pos h]; simp [nuMax2, nuLt, nuCB, h]
  · rw [if_neg h]; simp [nuMax2, nuLt, nuCB, h]
theorem nuMax3_int (i j k : Int) : nuMax3 (V.int i) (V.int j) (V.int k) = some (V.int (mx (mx i j) k)) := by
  unfold nuMax3
  rw [nuMax2_int]
  exact nuMax2_int _ _
structure GS where
  known : List (Int × Int)
  pend : List Int
  most : Int
  blk : List Int
def dI (kn : List (Int × Int)) : List (Key × V) := kn.map fun p => (.inl p.1, .int p.2)
def gfoll (h : Int) : List Int → List (Int × Int) → List Int → List (Int × Int) × List Int
  | [], kn, pe => (kn, pe)
  | f :: fs, kn, pe => if f ∈ kn.map (·.1) then gfoll h fs kn pe else gfoll h fs (kn ++ [(f, h)]) (pe ++ [f])
theorem gfoll_cons (h f : Int) (fs : List Int) (kn : List (Int × Int)) (pe : List Int) : gfoll h (f :: fs) kn pe = if f ∈ kn.map (·.1) then gfoll h fs kn pe else gfoll h fs (kn ++ [(f, h)]) (pe ++ [f]) := rfl
def BLK : Str := T [98, 108, 111, 99, 107]
def gone (code : List (Str × Int)) (s : GS) : Option GS :=
  match s.pend with
  | [] => none
  | a :: rest =>
    match (if 0 ≤ a then code[a.toNat]? else none), (s.known.find? fun p : Int × Int => decide (p.1 = a)) with
    | some (op, arg), some (_, h0) =>
      if inV (.str op) SENDs = false then
        let q := gfoll (h0 + chg op) (plc op arg a) s.known rest
        some ⟨q.1, q.2, mx (mx s.most h0) (h0 + chg op), if op = BLK then s.blk ++ [arg] else s.blk⟩
      else none
    | _, _ => none
def gruns (code : List (Str × Int)) : Nat → GS → Option GS
  | 0, s => some s
  | n + 1, s => (gone code s).bind (gruns code n)
theorem gruns_one {code : List (Str × Int)} {m : Nat} {s s' : GS} (h : gruns code (m + 1) s = some s') : ∃ (a : Nat) (rest : List Int) (op : Str) (arg h0 a' : Int), s.pend = (a : Int) :: rest ∧ code[a]? = some (op, arg) ∧
    s.known.find? (fun p : Int × Int => decide (p.1 = (a : Int))) = some (a', h0) ∧ inV (.str op) SENDs = false ∧ gruns code m ⟨(gfoll (h0 + chg op) (plc op arg a) s.known rest).1, (gfoll (h0 + chg op) (plc op arg a) s.known rest).2, mx (mx s.most h0) (h0 + chg op), if op = BLK then s.blk ++ [arg] else s.blk⟩ = some s' := by
  obtain ⟨t, h1, h2⟩ := Option.bind_eq_some_iff.mp (show (gone code s).bind (gruns code m) = some s' from h)
  unfold gone at h1
  split at h1
  · cases h1
  rename_i a rest e
  split at h1
  · rename_i op arg a' h0 e1 e2
    split at h1
    · rename_i hs
      cases h1
      by_cases ha : 0 ≤ a
      · rw [if_pos ha] at e1
        obtain ⟨n, rfl⟩ : ∃ n : Nat, a = (n : Int) := ⟨a.toNat, by omega⟩
        exact ⟨n, rest, op, arg, h0, a', e, by simpa using e1, e2, hs, h2⟩
      · rw [if_neg ha] at e1; cases e1
    · cases h1
  · cases h1
theorem plc_len (z : Str) (n k : Int) : (plc z n k).length ≤ 2 := by
  unfold plc
  split
  · show 1 ≤ 2; decide
  split
  · show 2 ≤ 2; decide
  split
  · show 0 ≤ 2; decide
  · show 1 ≤ 2; decide
theorem gfoll_len (h : Int) : ∀ (fs : List Int) (kn : List (Int × Int)) (pe : List Int), (gfoll h fs kn pe).1.length ≤ kn.length + fs.length ∧ (gfoll h fs kn pe).2.length ≤ pe.length + fs.length
  | [], kn, pe => ⟨Nat.le_refl _, Nat.le_refl _⟩
  | f :: fs, kn, pe => by
    unfold gfoll
    split
    · obtain ⟨a, b⟩ := gfoll_len h fs kn pe
      simp only [List.length_cons]
      omega
    · obtain ⟨a, b⟩ := gfoll_len h fs (kn ++ [(f, h)]) (pe ++ [f])
      simp only [List.length_append, List.length_cons, List.length_nil] at a b ⊢
      omega
theorem dI_some {kn : List (Int × Int)} {a h0 h : Int} (e : kn.find? (fun p : Int × Int => decide (p.1 = a)) = some (h0, h)) : valV (dI kn) (.inl a) = some (.int h) := by
  induction kn with
  | nil => cases e
  | cons p kn ih =>
    rw [List.find?_cons] at e
    by_cases hp : p.1 = a
    · rw [decide_eq_true hp] at e
      have e' : p = (h0, h) := Option.some.inj e
      subst e'
      exact valV_pos (p := (Sum.inl h0, V.int h)) (by rw [show h0 = a from hp])
    · rw [decide_eq_false hp] at e
      exact (valV_neg (p := (Sum.inl p.1, V.int p.2)) fun z => hp (Sum.inl.inj z)).trans (ih e)
theorem dI_keys (kn : List (Int × Int)) : (dI kn).map (·.1) = (kn.map (·.1)).map Sum.inl := by
  unfold dI
  rw [List.map_map, List.map_map]
  rfl
theorem dI_in {kn : List (Int × Int)} {a : Int} (h : a ∈ kn.map (·.1)) : (valV (dI kn) (.inl a)).isSome = true := val_some (by rw [dI_keys]; exact List.mem_map_of_mem h)
theorem dI_out {kn : List (Int × Int)} {a : Int} (h : ¬ a ∈ kn.map (·.1)) : valV (dI kn) (.inl a) = none := val_none (by rw [dI_keys]; intro q; obtain ⟨y, hy, e⟩ := List.mem_map.mp q; cases e; exact h hy)
theorem dI_put {kn : List (Int × Int)} {a v : Int} (h : ¬ a ∈ kn.map (·.1)) : putK (dI kn) (.inl a) (.int v) = dI (kn ++ [(a, v)]) := by
  rw [putK_new _ (dI_out h)]
  unfold dI
  rw [List.map_append]
  rfl
section
variable {P : Program} {w : World} {K : PySem.W.Frag} {mg : Str → Option Value} {base : Heap}
theorem z_pop0 {H : Hp} {l : Addr} {x : V} {xs : List V} {Q : VK} (h1 : H l = some (.lst (x :: xs))) (h : ∀ H1, Fr [l] H H1 → H1 l = some (.lst xs) → (∀ b, H b = none → H1 b = none) → Q x H1) : rPopAt (.ref l) [.int 0] H Q :=
  ⟨l, x :: xs, 0, 0, x, rfl, rfl, h1, by decide, by decide, (by simp [seqIndex?]), rfl, h _ (Fr.at (by simp)) upd_same (upd_free h1)⟩
theorem z_disp1 {tk tv : TE} {σ : L2.St} {H : Hp} {Q : VK} {k : Int} {v : V} (h : ∀ d H1, H d = none → Fr [] H H1 → H1 d = some (.dK [(.inl k, v)]) → Q (.ref d) H1)
    (hk : ∀ (H1 : Hp) (Q1 : VK), Q1 (.int k) H1 → tk σ H1 Q1 := by exact fun _ _ q => ⟨_, rfl, q⟩) (hv : ∀ (H1 : Hp) (Q1 : VK), Q1 v H1 → tv σ H1 Q1 := by exact fun _ _ q => q) : tDisp [(tk, tv)] σ H Q := fun d hd => by
  refine hk _ _ (hv _ _ ?_)
  refine ⟨upd_same, [(.inl k, v)], rfl, (by show 1 ≤ 15; decide), ?_⟩
  refine h d _ hd ?_ ?_
  · exact (Fr.new hd).skip hd
  · rw [upd_same]; rfl
def sp_greatest : Sp := fun vs H Q _ => ∃ ca a ba A code bl n s', vs = [.ref ca, .int a, .ref ba] ∧ H ca = some (.lst (A.map V.ref)) ∧ PrAt H A code ∧ H ba = some (.lst (bl.map V.int)) ∧ code.length ≤ 10000 ∧ bl.length ≤ 10000 ∧ n ≤ 10000 ∧
  gruns code n ⟨[(a, 0)], [a], 0, bl⟩ = some s' ∧ s'.pend = [] ∧ ca ≠ ba ∧ ba ∉ A ∧ ∀ H', Fr [ba] H H' → H' ba = some (.lst (s'.blk.map V.int)) → Q (.int s'.most) H'
theorem ok_greatest_height (W : Wd P K mg) : FnOk P w K mg base CX0 2 W.f_greatest_height W.fd_greatest_height ["code", "start", "blocks"] sp_greatest := by
  refine W.F_greatest_height.ok sc_greatest_height (fun vs H Q E h => by obtain ⟨ca, a, ba, A, code, bl, n, s', rfl, hc, hP, hb, lc, lb, ln, hr', hp', n1, n2, k⟩ := h; rfl) (fun cdv A outer s H vs Q E hr h => ?_)
  obtain ⟨ca, a, ba, A, code, bl, n, s', rfl, hc, hP, hb, lc, lb, ln, hr', hp', n1, n2, k⟩ := h
  have hu1 := hu_of hr
  have hu64 := hu64_of hr
  refine ⟨_, (pss_cons (ps_set (i := 3) sc_greatest_height.nd rfl (by first | exact Or.inl rfl | exact Or.inr rfl) (pe_disp (pps_cons (pv 1) pe_int pps_nil) rfl rfl (by simp) (by decide)))
      (pss_cons (ps_set (i := 4) sc_greatest_height.nd rfl (by first | exact Or.inl rfl | exact Or.inr rfl) (pe_lst (pa_cons (pv 1) pa_nil)))
      (pss_cons (ps_set (i := 5) sc_greatest_height.nd rfl (by first | exact Or.inl rfl | exact Or.inr rfl) pe_int)
      (pss_cons (ps_while PassesOwn.never (pt_cmpR op_gtU (pe_callB call_lenU (by rfl) W.n_len bb_len (pa_cons (pv 4) pa_nil)) pe_int (by first | exact nomark _ | rfl)) (pss_cons (ps_set (i := 6) sc_greatest_height.nd rfl (by first | exact Or.inl rfl | exact Or.inr rfl) (pe_bm PySem.F.plainAttrs_list PySem.F.slot_list_pop PySem.F.type_list_pop mt_popAt (pv 4) (pa_cons pe_int pa_nil)))
      (pss_cons (ps_asg (pe_ix (ix_U hu1) (pv 0) (pv 6) (fun _ _ => rfl)) (pg_tup rfl (pgs_cons (pg_name (i := 9) sc_greatest_height.nd rfl (by first | exact Or.inl rfl | exact Or.inr rfl)) (pgs_cons (pg_name (i := 10) sc_greatest_height.nd rfl (by first | exact Or.inl rfl | exact Or.inr rfl)) pgs_nil))))
      (pss_cons (ps_set (i := 7) sc_greatest_height.nd rfl (by first | exact Or.inl rfl | exact Or.inr rfl) (pe_op op_addU (pe_ix (ix_U hu1) (pv 3) (pv 6) (fun _ _ => rfl)) (pe_call (ok_change_of W) (hr.mono (by decide)) rfl W.g_change_of W.F_change_of.kp W.b_change_of .nil pass0 (pa_cons (pv 9) (pa_cons (pv 10) pa_nil)))))
      (pss_cons (ps_set (i := 5) sc_greatest_height.nd rfl (by first | exact Or.inl rfl | exact Or.inr rfl) (pe_callB (call_max3Nu rfl) (by rfl) W.n_max bb_max (pa_cons (pv 5) (pa_cons (pe_ix (ix_U hu1) (pv 3) (pv 6) (fun _ _ => rfl)) (pa_cons (pv 7) pa_nil)))))
      (Evl.pss_cut (ps_if (pt_cmpR (op_eqU hu64) (pv 9) (pe_strT (show (PySem.Str.ofString "block") = T [98, 108, 111, 99, 107] by decide +kernel)) (by first | exact nomark _ | rfl)) (pss_one (ps_expr (pe_bm PySem.F.plainAttrs_list PySem.F.slot_list_append PySem.F.type_list_append mt_append (pv 2) (pa_cons (pv 10) pa_nil)))) pss_nil)
      (pss_one (ps_for PassesOwn.never rfl (pi_list (pe_call (ok_places_behind W) (hr.mono (by decide)) rfl W.g_places_behind W.F_places_behind.kp W.b_places_behind .nil pass0 (pa_cons (pv 9) (pa_cons (pv 10) (pa_cons (pv 6) pa_nil))))) (pg_name (i := 8) sc_greatest_height.nd rfl (by first | exact Or.inl rfl | exact Or.inr rfl)) (pss_one (ps_if (pt_cmpR (op_ninU hu1) (pv 8) (pv 3) (by first | exact nomark _ | rfl)) (pss_cons (ps_dput hu1 (pv 3) (pv 8) (pv 7) rfl)
      (pss_one (ps_expr (pe_bm PySem.F.plainAttrs_list PySem.F.slot_list_append PySem.F.type_list_append mt_append (pv 4) (pa_cons (pv 8) pa_nil))))) pss_nil))))))))))
      (pss_one (ps_ret (pv 5))))))), ?_⟩
  refine z_start (σ := [some _, some _, some _, none, none, none, none, none, none, none, none]) rfl ?_
  one_sign
  refine z_disp1 (fun d H1 hd f1 e1 => ?_)
  one_sign
  refine z_newL (by show 1 ≤ sizeLine; decide) fun p H2 hp2 f2 e2 => ?_
  one_sign
  have F2 : Fr [] H H2 := f1.trans f2
  have e1' := f2.g0 e1
  have ndp : d ≠ p := ne_of_none e1 hp2
  have ndb : ba ≠ d := ne_of_none hb hd
  have npb : ba ≠ p := ne_of_none (f1.g0 hb) hp2
  have ndc : ca ≠ d := ne_of_none hc hd
  have npc : ca ≠ p := ne_of_none (f1.g0 hc) hp2
  have hb2 := F2.g0 hb
  have hc2 := F2.g0 hc
  have hP2 := hP.keep F2
  refine ⟨fun m σ H' => ∃ (s : GS) (v6 v7 v8 v9 v10 : Option V), σ = [some (.ref ca), some (.int a), some (.ref ba), some (.ref d), some (.ref p), some (.int s.most), v6, v7, v8, v9, v10] ∧ gruns code m s = some s' ∧ H' d = some (.dK (dI s.known)) ∧ H' p = some (.lst (s.pend.map V.int)) ∧ H' ba = some (.lst (s.blk.map V.int)) ∧ Fr [d, p, ba] H2 H' ∧
    s.known.length + 2 * m ≤ 20001 ∧ s.pend.length + 2 * m ≤ 20001 ∧ s.blk.length + m ≤ 20000,
    ⟨n, ⟨[(a, 0)], [a], 0, bl⟩, _, _, _, _, _, rfl, hr', e1', e2, hb2, Fr.rfl', by show 1 + 2 * n ≤ 20001; omega, by show 1 + 2 * n ≤ 20001; omega, by show bl.length + n ≤ 20000; omega⟩, ?_⟩
  rintro m σ H3 ⟨s, v6, v7, v8, v9, v10, rfl, hg, hd3, hp3, hb3, f3, l1, l2, l3⟩
  one_sign
  rw [List.length_map]
  cases m with
  | zero =>
    have e : s = s' := Option.some.inj hg
    subst e
    rw [hp']
    refine iteD (fun h => absurd h (by simp)) (fun _ => ?_)
    one_sign
    exact k H3 (fun b o e n => f3 b o (F2.g0 e) (by
      simp only [List.mem_cons, List.not_mem_nil, or_false] at n ⊢
      rintro (z | z | z)
      · exact ne_of_none e hd z
      · exact ne_of_none (f1.g0 e) hp2 z
      · exact n z)) hb3
  | succ m =>
    obtain ⟨a1, rest, op, arg, h0, a', ep, ec, ek, es, hg'⟩ := gruns_one hg
    rw [ep] at hp3 l2 ⊢
    refine iteD (fun _ => ?_) (fun h => absurd (by simp) h)
    refine ⟨_, fun _ _ z => ⟨m, Nat.lt_succ_self m, z⟩, ?_⟩
    have hn3 : ∀ {b : Addr} {o : HO}, H2 b = some o → b ≠ d → b ≠ p → b ≠ ba → H3 b = some o := fun e x y z => f3 _ _ e (by simp [x, y, z])
    one_sign
    refine z_pop0 hp3 fun H4 f4 e4 n4 => ?_
    obtain ⟨ta, hta⟩ : ∃ ta, A[a1]? = some ta := ⟨_, List.getElem?_eq_getElem (by rw [hP.1]; exact (List.getElem?_eq_some_iff.mp ec).1)⟩
    have ht0 := hP.2 a1 ta op arg hta ec
    have ht3 := hn3 (F2.g0 ht0) (ne_of_none ht0 hd) (ne_of_none (f1.g0 ht0) hp2) (fun z => n2 (by rw [← z]; exact List.mem_of_getElem? hta))
    have ht4 := f4.g ht3 (by simp; exact ne_of_none (f1.g0 ht0) hp2)
    have hc4 := f4.g (hn3 hc2 ndc npc n1) (by simp; exact npc)
    have hd4 := f4.g hd3 (by simp; exact ndp)
    have hb4 := f4.g hb3 (by simp; exact npb)
    one_sign
    refine z_ixL hc4 (atI_nat (ref_at hta)) ?_
    one_sign
    refine z_gtup ht4 rfl ?_
    one_sign
    refine z_ixD hd4 (dI_some ek) ?_
    one_sign
    refine ⟨_, _, rfl, es, fun H5 f5 => ?_⟩
    have hd5 := f5.g0 hd4
    have hb5 := f5.g0 hb4
    have hp5 := f5.g0 e4
    one_sign
    refine z_ixD hd5 (dI_some ek) ?_
    one_sign
    refine ⟨_, _, _, _, rfl, nuMax3_int _ _ _, ?_⟩
    one_sign
    refine Evl.q_cut (M := fun σ H' => σ = [some (.ref ca), some (.int a), some (.ref ba), some (.ref d), some (.ref p), some (.int (mx (mx s.most h0) (h0 + chg op))), some (.int a1), some (.int (h0 + chg op)), v8, some (.str op), some (.int arg)] ∧
      H' d = some (.dK (dI s.known)) ∧ H' p = some (.lst (rest.map V.int)) ∧ H' ba = some (.lst ((if op = BLK then s.blk ++ [arg] else s.blk).map V.int)) ∧ Fr [d, p, ba] H2 H') ?_ ?_
    · one_sign
      have f35 : Fr [d, p, ba] H2 H5 := (f3.trans (f4.mono (by intro b h; simp at h ⊢; simp [h]))).trans (f5.mono (by simp))
      refine iteD (fun h => ?_) (fun h => ?_)
      · one_sign
        refine z_append hb5 (by rw [List.length_map, sizeLine_eq]; omega) fun H6 f6 e6 n6 => ?_
        one_sign
        refine ⟨rfl, f6.g hd5 (by simp; exact ndb.symm), f6.g hp5 (by simp; exact npb.symm), ?_, f35.trans (f6.mono (by intro b h; simp at h ⊢; simp [h]))⟩
        rw [e6, if_pos (show op = BLK from h), List.map_append]
        rfl
      · one_sign
        refine ⟨rfl, hd5, hp5, ?_, f35⟩
        rw [hb5, if_neg (show ¬ op = BLK from h)]
    rintro σ H6 ⟨rfl, hd6, hp6, hb6, f6⟩
    clear hd5 hb5 hp5 hd4 hb4 hc4 e4 hd3 hb3 hp3 ht4 ht3
    one_sign
    refine ⟨op, arg, a1, rfl, fun H7 l f7 hl l7 => ?_⟩
    have hd7 := f7.g0 hd6
    have hp7 := f7.g0 hp6
    have hb7 := f7.g0 hb6
    one_sign
    have lfs := plc_len op arg a1
    generalize plc op arg a1 = fs at l7 lfs hg'
    have ndl : d ≠ l := ne_of_none hd6 hl
    have npl : p ≠ l := ne_of_none hp6 hl
    have nbl : ba ≠ l := ne_of_none hb6 hl
    refine for_list (K := K) (a := l) (xs := fs.map V.int) (fun i σ H' => ∃ (kn : List (Int × Int)) (pe : List Int) (v8 : Option V), σ = [some (.ref ca), some (.int a), some (.ref ba), some (.ref d), some (.ref p), some (.int (mx (mx s.most h0) (h0 + chg op))), some (.int a1), some (.int (h0 + chg op)), v8, some (.str op), some (.int arg)] ∧
      H' d = some (.dK (dI kn)) ∧ H' p = some (.lst (pe.map V.int)) ∧ H' ba = some (.lst ((if op = BLK then s.blk ++ [arg] else s.blk).map V.int)) ∧ H' l = some (.lst (fs.map V.int)) ∧ Fr [d, p, ba] H2 H' ∧
      gfoll (h0 + chg op) (fs.drop i) kn pe = gfoll (h0 + chg op) fs s.known rest ∧ kn.length ≤ s.known.length + i ∧ pe.length ≤ rest.length + i)
      ⟨s.known, rest, _, rfl, hd7, hp7, hb7, l7, f6.trans (f7.mono (by simp)), rfl, Nat.le_refl _, Nat.le_refl _⟩ (fun i σ H' _ hI => ?_) (fun i x σ H8 hx hI => ?_) (fun σ H8 hI => ?_)
    · obtain ⟨_, _, _, _, _, _, _, h, _⟩ := hI
      exact SqL.of h
    · obtain ⟨kn, pe, v8, rfl, hd8, hp8, hb8, hl8, f8, eg, lk, lp⟩ := hI
      obtain ⟨f, hf, rfl⟩ : ∃ f, fs[i]? = some f ∧ x = V.int f := by
        rw [List.getElem?_map] at hx
        obtain ⟨f, hf, e⟩ := Option.map_eq_some_iff.mp hx
        exact ⟨f, hf, e.symm⟩
      obtain ⟨hi, hfi⟩ := List.getElem?_eq_some_iff.mp hf
      rw [List.drop_eq_getElem_cons hi, hfi] at eg
      have lrs : rest.length + 1 + 2 * (m + 1) ≤ 20001 := l2
      one_sign
      rw [gfoll_cons] at eg
      by_cases hm : f ∈ kn.map (·.1)
      · rw [if_pos hm] at eg
        rw [dI_in hm]
        one_sign
        exact ⟨kn, pe, _, rfl, hd8, hp8, hb8, hl8, f8, eg, by omega, by omega⟩
      · rw [if_neg hm] at eg
        rw [dI_out hm]
        one_sign
        refine z_dputI hd8 (by unfold dI; rw [List.length_map, sizeLine_eq]; omega) fun H9 f9 e9 n9 => ?_
        rw [dI_put hm] at e9
        have hp9 := f9.g hp8 (by simp; exact ndp.symm)
        have hb9 := f9.g hb8 (by simp; exact ndb)
        have hl9 := f9.g hl8 (by simp; exact ndl.symm)
        one_sign
        refine z_append hp9 (by rw [List.length_map, sizeLine_eq]; omega) fun H10 f10 e10 n10 => ?_
        one_sign
        refine ⟨_, pe ++ [f], _, rfl, f10.g e9 (by simp; exact ndp), ?_, f10.g hb9 (by simp; exact npb), f10.g hl9 (by simp; exact npl.symm), ?_, eg, ?_, ?_⟩
        · rw [e10, List.map_append]; rfl
        · exact (f8.trans (f9.mono (by intro b h; simp at h ⊢; simp [h]))).trans (f10.mono (by intro b h; simp at h ⊢; simp [h]))
        · rw [List.length_append]; show kn.length + 1 ≤ _; omega
        · rw [List.length_append]; show pe.length + 1 ≤ _; omega
    obtain ⟨kn, pe, v8, rfl, hd8, hp8, hb8, hl8, f8, eg, lk, lp⟩ := hI
    rw [List.length_map] at eg lk lp
    rw [List.drop_length] at eg
    have eg : (kn, pe) = gfoll (h0 + chg op) fs s.known rest := eg
    rw [← eg] at hg'
    have lrs : rest.length + 1 + 2 * (m + 1) ≤ 20001 := l2
    refine ⟨_, _, _, _, _, _, rfl, hg', hd8, hp8, hb8, f8, by show kn.length + 2 * m ≤ 20001; omega, by show pe.length + 2 * m ≤ 20001; omega, ?_⟩
    show (if op = BLK then s.blk ++ [arg] else s.blk).length + m ≤ 20000
    split
    · rw [List.length_append]; show s.blk.length + 1 + m ≤ 20000; omega
    · omega
end

end LX
namespace LX
open PySem PySem.Spec PyProof.Rows L2 NdefX
set_option hygiene false in
local macro_rules | `(tactic| k_memK) => `(tactic| first | exact W.na_Draft_selector | exact W.na_Draft_argc | exact W.na_Draft_locals | exact W.na_Draft_stack | exact W.na_Draft_code | exact W.na_Draft_literals | exact W.na_Coder_fields | exact W.na_Coder_globals_known | exact W.na_Coder_code | exact W.na_Coder_literals | exact W.na_Coder_scopes)
set_option hygiene false in
local macro_rules | `(tactic| k_ownIn) => `(tactic| first | exact W.C_Draft | exact W.C_Coder)
local macro_rules | `(tactic| none_booked) => `(tactic| first | assumption | (refine Fr.g0 (by assumption) ?_; none_booked))
local macro_rules | `(tactic| one_sign) => `(tactic| repeat (first
  | refine Stp.h ?_
  | ((with_reducible refine' z_fld1 ?k0 ?k1 ?k2 ?k3 ?_); (case k0 => none_booked); (case k1 => k_ownIn); (case k2 => k_memK); (case k3 => rfl))
  | ((with_reducible refine' z_meth1 ?k0 ?k1 ?_); (case k0 => none_booked); (case k1 => rfl))
  | ((with_reducible refine' z_bmL ?k0 ?_); (case k0 => none_booked))
  | ((with_reducible refine' z_lenL ?k0 ?_); (case k0 => none_booked))
  | ((with_reducible refine' z_lenT ?k0 ?_); (case k0 => none_booked))
  | ((with_reducible refine' z_lenD ?k0 ?_); (case k0 => none_booked))
  | ((with_reducible refine' z_truL ?k0 ?_); (case k0 => none_booked))
  | ((with_reducible refine' z_truD ?k0 ?_); (case k0 => none_booked))
  | ((with_reducible refine' z_truT ?k0 ?_); (case k0 => none_booked))
  | ((with_reducible refine' z_inDIP ?k0 ?_); (case k0 => none_booked))
  | ((with_reducible refine' z_inDIN ?k0 ?_); (case k0 => none_booked))
  | ((with_reducible refine' z_inDfP ?k0 ?_); (case k0 => none_booked))
  | ((with_reducible refine' z_inDfN ?k0 ?_); (case k0 => none_booked))
  | ((with_reducible refine' z_iList1 ?k0 ?_); (case k0 => none_booked))
  | ((with_reducible refine' z_isi0 ?k0 ?k1 ?k2 ?_); (case k0 => exact (ClsV.ty _)); (case k1 => exact (TyX.base (TyOf.lst (by none_booked)))); (case k2 => first | exact kt_list_int | exact kt_list_bool | exact kt_list_str | exact kt_list_list | exact kt_list_tuple | exact kt_list_dict))
  | ((with_reducible refine' z_rI ?k0 ?_); (case k0 => first | exact (by decide : (0 : Int) < _) | exact ⟨by decide, by decide⟩ | exact ⟨by decide, by decide, by decide⟩ | (show (0 : Int) < _; omega)))
  | ((with_reducible refine' z_mulI ?k0 ?_); (case k0 => first | exact Or.inr ⟨by decide, by decide⟩ | exact Or.inl ⟨by decide, by decide⟩ | exact Or.inl ⟨by omega, by omega⟩ | exact Or.inr ⟨by omega, by omega⟩))))
local macro_rules | `(tactic| leaf_len) => `(tactic| (simp only [wipe, List.map_cons, List.map_nil, List.set_cons_zero, List.set_cons_succ]; one_sign; refine z_ok rfl ?_; one_sign))
section
variable {P : Program} {w : World} {K : PySem.W.Frag} {mg : Str → Option Value} {base : Heap}
/-- what a piece of code asks for -/
structure Runs (code : List (Str × Int)) (b : Int) (bl : List Int) (most : Int) (bl' : List Int) : Prop where
  ex : ∃ n s', n ≤ 10000 ∧ gruns code n ⟨[(b, 0)], [b], 0, bl⟩ = some s' ∧ s'.pend = [] ∧ s'.most = most ∧ s'.blk = bl'
theorem z_slT4 {H : Hp} {a : Addr} {x y z u v : V} {Q : VK} (h1 : H a = some (.tup [x, y, z, u, v])) (h : ∀ p H1, H p = none → Fr [] H H1 → H1 p = some (.tup [x, y, z, u]) → Q (.ref p) H1) : rSlU K (.ref a) none (some 4) H Q :=
  Or.inr ⟨a, _, rfl, SqT.of h1, fun e => absurd e.2 (show ¬ HT.sIx 5 5 (some 4) = 5 by decide), fun _ p hp => h p _ hp (Fr.new hp) upd_same⟩
theorem Fr.in' {H0 H H1 : Hp} {q : Addr} (f : Fr [] H0 H) (g : Fr [q] H H1) (hq : H0 q = Option.none) : Fr [] H0 H1 := f.in g hq
def sp_stacks : Sp := fun vs H Q _ => ∃ ca la A code m, vs = [.ref ca, .ref la] ∧ H ca = some (.lst (A.map V.ref)) ∧ PrAt H A code ∧ code.length ≤ 10000 ∧
  ((H la = some (.lst []) ∧ Runs code 0 [] m [] ∧ ∀ H' t r, Fr [] H H' → H t = none → H' t = some (.tup [.int m, .ref r]) → H' r = some (.lst []) → Q (.ref t) H') ∨
   (∃ t0 k n b m2, H la = some (.lst [.ref t0]) ∧ H t0 = some (.tup [.str BLK, .int k, .int n, .int b, .int 0]) ∧ Runs code 0 [] m [0] ∧ Runs code b [0] m2 [0] ∧
    ∀ H' t r t2, Fr [] H H' → H t = none → H' t = some (.tup [.int m, .ref r]) → H' r = some (.lst [.ref t2]) → H' t2 = some (.tup [.str BLK, .int k, .int n, .int b, .int m2]) → Q (.ref t) H'))
theorem ok_with_stacks (W : Wd P K mg) : FnOk P w K mg base CX0 3 W.f_with_stacks W.fd_with_stacks ["code", "literals"] sp_stacks := by
  refine W.F_with_stacks.ok sc_with_stacks (fun vs H Q E h => by obtain ⟨ca, la, A, code, m, rfl, hc, hP, lc, h⟩ := h; rfl) (fun cdv A outer s H vs Q E hr h => ?_)
  obtain ⟨ca, la, A, code, m, rfl, hc, hP, lc, h⟩ := h
  have hu1 := hu_of hr
  have hu64 := hu64_of hr
  refine ⟨_, (pss_cons (ps_set (i := 2) sc_with_stacks.nd rfl (by first | exact Or.inl rfl | exact Or.inr rfl) (pe_callTy call_listU (by rfl) W.n_list bb_list (pa_cons (pv 1) pa_nil)))
      (pss_cons (ps_set (i := 3) sc_with_stacks.nd rfl (by first | exact Or.inl rfl | exact Or.inr rfl) (pe_lst pa_nil))
      (pss_cons (ps_set (i := 4) sc_with_stacks.nd rfl (by first | exact Or.inl rfl | exact Or.inr rfl) (pe_call (ok_greatest_height W) (hr.mono (by decide)) rfl W.g_greatest_height W.F_greatest_height.kp W.b_greatest_height .nil pass0 (pa_cons (pv 0) (pa_cons pe_int (pa_cons (pv 3) pa_nil)))))
      (pss_cons (ps_set (i := 5) sc_with_stacks.nd rfl (by first | exact Or.inl rfl | exact Or.inr rfl) pe_int)
      (pss_cons (ps_while PassesOwn.never (pt_cmpR op_ltU (pv 5) (pe_callB call_lenU (by rfl) W.n_len bb_len (pa_cons (pv 3) pa_nil)) (by first | exact nomark _ | rfl)) (pss_cons (ps_set (i := 6) sc_with_stacks.nd rfl (by first | exact Or.inl rfl | exact Or.inr rfl) (pe_ix (ix_U hu1) (pv 2) (pe_ix (ix_U hu1) (pv 3) (pv 5) (fun _ _ => rfl)) (fun _ _ => rfl)))
      (pss_cons (ps_set (i := 7) sc_with_stacks.nd rfl (by first | exact Or.inl rfl | exact Or.inr rfl) (pe_call (ok_greatest_height W) (hr.mono (by decide)) rfl W.g_greatest_height W.F_greatest_height.kp W.b_greatest_height .nil pass0 (pa_cons (pv 0) (pa_cons (pe_ix (ix_U hu1) (pv 6) pe_int (fun _ _ => rfl)) (pa_cons (pv 3) pa_nil)))))
      (pss_cons (ps_asg (pe_op op_addU (pe_slice sl_U (pv 6) po_none (po_some pe_int)) (pe_tup (pa_cons (pv 7) pa_nil))) (pg_sub (pv 2) (pe_ix (ix_U hu1) (pv 3) (pv 5) (fun _ _ => rfl)) set_list))
      (pss_one (ps_aug (i := 5) sc_with_stacks.nd rfl (by first | exact Or.inl rfl | exact Or.inr rfl) pe_int ip_add))))))
      (pss_one (ps_ret (pe_tup (pa_cons (pv 4) (pa_cons (pv 2) pa_nil)))))))))), ?_⟩
  refine z_start (σ := [some _, some _, none, none, none, none, none, none]) rfl ?_
  one_sign
  have nP : ∀ {b : Addr}, H b = none → b ∉ A := fun {b} hb m => by
    obtain ⟨i, hi⟩ := List.getElem?_of_mem m
    have hi2 := (List.getElem?_eq_some_iff.mp hi).1
    obtain ⟨⟨z, n⟩, hz⟩ : ∃ p, code[i]? = some p := ⟨_, List.getElem?_eq_getElem (by rw [← hP.1]; exact hi2)⟩
    have := hP.2 i b z n hi hz
    rw [hb] at this
    cases this
  rcases h with ⟨hl, R, k⟩ | ⟨t0, k0, n0, b, m2, hl, ht0, R, R2, k⟩
  · one_sign
    refine z_listL hl fun r H1 hr1 f1 r1 => ?_
    one_sign
    refine z_newL (by show 0 ≤ sizeLine; decide) fun b H2 hb2 f2 b2 => ?_
    one_sign
    have F2 := f1.trans f2
    have hb0 := f1.none hb2
    obtain ⟨n, s', hn, hg, hp, rfl, hbl⟩ := R.ex
    refine ⟨ca, 0, b, A, code, [], n, s', rfl, F2.g0 hc, hP.keep F2, b2, lc, by decide, hn, hg, hp, ne_of_none hc hb0, nP hb0, fun H3 f3 b3 => ?_⟩
    rw [hbl] at b3
    have r3 := f3.g (f2.g0 r1) (by simp; exact ne_of_none r1 hb2)
    have F3 : Fr [] H H3 := F2.in f3 hb0
    one_sign
    refine ⟨fun m' σ H' => m' = 0 ∧ σ = [some (.ref ca), some (.ref la), some (.ref r), some (.ref b), some (.int s'.most), some (.int 0), none, none] ∧ H' = H3, ⟨0, rfl, rfl, rfl⟩, ?_⟩
    rintro m' σ H' ⟨rfl, rfl, rfl⟩
    one_sign
    refine iteD (fun h => absurd h (by decide)) (fun _ => ?_)
    one_sign
    refine z_newL (by show 2 ≤ sizeLine; decide) fun t H4 ht f4 t4 => ?_
    one_sign
    exact k H4 t r (F3.trans f4) (F3.none ht) t4 (f4.g0 r3)
  · one_sign
    refine z_listL hl fun r H1 hr1 f1 r1 => ?_
    one_sign
    refine z_newL (by show 0 ≤ sizeLine; decide) fun b' H2 hb2 f2 b2 => ?_
    one_sign
    have F2 := f1.trans f2
    have hb0 := f1.none hb2
    obtain ⟨n, s', hn, hg, hp, rfl, hbl⟩ := R.ex
    obtain ⟨n2, s2, hn2, hg2, hp2, rfl, hbl2⟩ := R2.ex
    refine ⟨ca, 0, b', A, code, [], n, s', rfl, F2.g0 hc, hP.keep F2, b2, lc, by decide, hn, hg, hp, ne_of_none hc hb0, nP hb0, fun H3 f3 b3 => ?_⟩
    rw [hbl] at b3
    have r3 := f3.g (f2.g0 r1) (by simp; exact ne_of_none r1 hb2)
    have F3 : Fr [] H H3 := F2.in f3 hb0
    have t3 := F3.g0 ht0
    one_sign
    refine ⟨fun m' σ H' => (m' = 1 ∧ σ = [some (.ref ca), some (.ref la), some (.ref r), some (.ref b'), some (.int s'.most), some (.int 0), none, none] ∧ H' = H3) ∨
      (m' = 0 ∧ ∃ (v6 v7 : Option V) (t2 : Addr), σ = [some (.ref ca), some (.ref la), some (.ref r), some (.ref b'), some (.int s'.most), some (.int 1), v6, v7] ∧ Fr [] H H' ∧ H' b' = some (.lst [.int 0]) ∧ H' r = some (.lst [.ref t2]) ∧ H' t2 = some (.tup [.str BLK, .int k0, .int n0, .int b, .int s2.most])), ⟨1, Or.inl ⟨rfl, rfl, rfl⟩⟩, ?_⟩
    rintro m' σ H' (⟨rfl, rfl, rfl⟩ | ⟨rfl, v6, v7, t2, rfl, F5, b5, r5, t5⟩)
    · one_sign
      refine iteD (fun _ => ?_) (fun h => absurd (by decide) h)
      refine ⟨_, fun _ _ z => ⟨0, by decide, z⟩, ?_⟩
      have b3 : H' b' = some (.lst [.int 0]) := b3
      one_sign
      refine z_ixL b3 (show _ = some (V.int 0) from rfl) ?_
      one_sign
      refine z_ixL r3 (show _ = some (V.ref t0) from rfl) ?_
      one_sign
      refine z_ixT t3 (show _ = some (V.int b) from rfl) ?_
      one_sign
      refine ⟨ca, b, b', A, code, [0], n2, s2, rfl, F3.g0 hc, hP.keep F3, b3, lc, by decide, hn2, hg2, hp2, ne_of_none hc hb0, nP hb0, fun H4 f4 b4 => ?_⟩
      rw [hbl2] at b4
      have F4 : Fr [] H H4 := F3.in' f4 hb0
      have t4 := F4.g0 ht0
      have r4 := f4.g r3 (by simp; exact ne_of_none r1 hb2)
      one_sign
      refine z_slT4 t4 fun q H5 hq f5 q5 => ?_
      one_sign
      refine z_newL (by show 1 ≤ sizeLine; decide) fun u H6 hu f6 u6 => ?_
      one_sign
      refine z_addT (f6.g0 q5) u6 (by show 5 ≤ sizeLine; decide) (by simp) (by simp) fun t2 H7 ht2 f7 t7 => ?_
      have f47 := f5.trans (f6.trans f7)
      have b7 : H7 b' = some (.lst [.int 0]) := f47.g0 b4
      have r7 := f47.g0 r4
      one_sign
      refine z_ixL b7 (show _ = some (V.int 0) from rfl) ?_
      one_sign
      have ht20 : H r = some (.lst [.ref t0]) → False := fun e => by rw [hr1] at e; cases e
      refine z_setL r7 (show ixN 1 0 = some 0 from rfl) fun H8 f8 r8 n8 => ?_
      one_sign
      have F7 : Fr [] H H7 := F4.trans f47
      refine ⟨_, rfl, _, _, rfl, rfl, ?_⟩
      refine Or.inr ⟨rfl, _, _, t2, rfl, F7.in f8 hr1, f8.g b7 (by simp; exact (ne_of_none r1 hb2).symm), r8, f8.g t7 (by simp; exact (ne_of r7 t7 (by intro z; cases z)).symm)⟩
    · one_sign
      refine iteD (fun h => absurd h (by decide)) (fun _ => ?_)
      one_sign
      refine z_newL (by show 2 ≤ sizeLine; decide) fun t H6 ht f6 t6 => ?_
      one_sign
      exact k H6 t r t2 (F5.trans f6) (F5.none ht) t6 (f6.g0 r5) (f6.g0 t5)
end

end LX
namespace LX
open PySem PySem.Spec PyProof.Rows L2 NdefX
set_option hygiene false in
local macro_rules | `(tactic| k_memK) => `(tactic| first | exact W.na_Draft_selector | exact W.na_Draft_argc | exact W.na_Draft_locals | exact W.na_Draft_stack | exact W.na_Draft_code | exact W.na_Draft_literals | exact W.na_Coder_fields | exact W.na_Coder_globals_known | exact W.na_Coder_code | exact W.na_Coder_literals | exact W.na_Coder_scopes)
set_option hygiene false in
local macro_rules | `(tactic| k_ownIn) => `(tactic| first | exact W.C_Draft | exact W.C_Coder)
local macro_rules | `(tactic| none_booked) => `(tactic| first | assumption | (refine Fr.g0 (by assumption) ?_; none_booked))
local macro_rules | `(tactic| one_sign) => `(tactic| repeat (first
  | refine Stp.h ?_
  | ((with_reducible refine' z_fld1 ?k0 ?k1 ?k2 ?k3 ?_); (case k0 => none_booked); (case k1 => k_ownIn); (case k2 => k_memK); (case k3 => rfl))
  | ((with_reducible refine' z_meth1 ?k0 ?k1 ?_); (case k0 => none_booked); (case k1 => rfl))
  | ((with_reducible refine' z_bmL ?k0 ?_); (case k0 => none_booked))
  | ((with_reducible refine' z_lenL ?k0 ?_); (case k0 => none_booked))
  | ((with_reducible refine' z_lenT ?k0 ?_); (case k0 => none_booked))
  | ((with_reducible refine' z_lenD ?k0 ?_); (case k0 => none_booked))
  | ((with_reducible refine' z_truL ?k0 ?_); (case k0 => none_booked))
  | ((with_reducible refine' z_truD ?k0 ?_); (case k0 => none_booked))
  | ((with_reducible refine' z_truT ?k0 ?_); (case k0 => none_booked))
  | ((with_reducible refine' z_inDIP ?k0 ?_); (case k0 => none_booked))
  | ((with_reducible refine' z_inDIN ?k0 ?_); (case k0 => none_booked))
  | ((with_reducible refine' z_inDfP ?k0 ?_); (case k0 => none_booked))
  | ((with_reducible refine' z_inDfN ?k0 ?_); (case k0 => none_booked))
  | ((with_reducible refine' z_iList1 ?k0 ?_); (case k0 => none_booked))
  | ((with_reducible refine' z_isi0 ?k0 ?k1 ?k2 ?_); (case k0 => exact (ClsV.ty _)); (case k1 => exact (TyX.base (TyOf.lst (by none_booked)))); (case k2 => first | exact kt_list_int | exact kt_list_bool | exact kt_list_str | exact kt_list_list | exact kt_list_tuple | exact kt_list_dict))
  | ((with_reducible refine' z_rI ?k0 ?_); (case k0 => first | exact (by decide : (0 : Int) < _) | exact ⟨by decide, by decide⟩ | exact ⟨by decide, by decide, by decide⟩ | (show (0 : Int) < _; omega)))
  | ((with_reducible refine' z_mulI ?k0 ?_); (case k0 => first | exact Or.inr ⟨by decide, by decide⟩ | exact Or.inl ⟨by decide, by decide⟩ | exact Or.inl ⟨by omega, by omega⟩ | exact Or.inr ⟨by omega, by omega⟩))))
local macro_rules | `(tactic| leaf_len) => `(tactic| (simp only [wipe, List.map_cons, List.map_nil, List.set_cons_zero, List.set_cons_succ]; one_sign; refine z_ok rfl ?_; one_sign))
def cF (fi gk cl ll sl : Addr) : List (Str × V) := [("fields", .ref fi), ("globals_known", .ref gk), ("code", .ref cl), ("literals", .ref ll), ("scopes", .ref sl)]
structure CoderAt (H : Hp) (C co dx fi gk cl ll sl : Addr) (A : List Addr) (code : List (Str × Int)) (lits scs : List V) : Prop where
  hco : H co = some (.ins C dx (cF fi gk cl ll sl))
  hcl : H cl = some (.lst (A.map V.ref))
  hcd : PrAt H A code
  hll : H ll = some (.lst lits)
  hsl : H sl = some (.lst scs)
  ncl : cl ≠ ll ∧ cl ≠ sl ∧ ll ≠ sl
theorem CoderAt.keep {H H' : Hp} {C co dx fi gk cl ll sl : Addr} {A : List Addr} {code : List (Str × Int)} {lits scs : List V} (h : CoderAt H C co dx fi gk cl ll sl A code lits scs) (f : Fr [] H H') : CoderAt H' C co dx fi gk cl ll sl A code lits scs :=
  ⟨f.g0 h.hco, f.g0 h.hcl, h.hcd.keep f, f.g0 h.hll, f.g0 h.hsl, h.ncl⟩
theorem PrAt.at {H : Hp} {A : List Addr} {ps : List (Str × Int)} (h : PrAt H A ps) {a : Addr} (ha : a ∈ A) : ∃ z n, H a = some (.tup [.str z, .int n]) := by
  obtain ⟨i, hi⟩ := List.getElem?_of_mem ha
  have hi2 := (List.getElem?_eq_some_iff.mp hi).1
  obtain ⟨⟨z, n⟩, hz⟩ : ∃ p, ps[i]? = some p := ⟨_, List.getElem?_eq_getElem (by rw [← h.1]; exact hi2)⟩
  exact ⟨z, n, h.2 i a z n hi hz⟩
theorem PrAt.keepF {H H' : Hp} {A : List Addr} {ps : List (Str × Int)} {F : List Addr} (h : PrAt H A ps) (f : Fr F H H') (hF : ∀ b ∈ F, ∃ xs, H b = some (.lst xs)) : PrAt H' A ps := ⟨h.1, fun i a z n h1 h2 => by
  have e := h.2 i a z n h1 h2
  refine f.g e fun m => ?_
  obtain ⟨xs, e2⟩ := hF a m
  rw [e] at e2
  cases e2⟩
/-- one more instruction -/
theorem CoderAt.add {H H1 H2 : Hp} {C co dx fi gk cl ll sl q : Addr} {A : List Addr} {code : List (Str × Int)} {lits scs : List V} {z : Str} {n : Int} (h : CoderAt H C co dx fi gk cl ll sl A code lits scs) (f : Fr [] H H1) (hq : H1 q = some (.tup [.str z, .int n]))
    (g : Fr [cl] H1 H2) (e : H2 cl = some (.lst (A.map V.ref ++ [.ref q]))) : CoderAt H2 C co dx fi gk cl ll sl (A ++ [q]) (code ++ [(z, n)]) lits scs := by
  have k := h.keep f
  have q2 := g.g hq (by simp; intro z; rw [z, k.hcl] at hq; cases hq)
  have P2 := k.hcd.keepF g (by intro b hb; rw [List.mem_singleton.mp hb]; exact ⟨_, k.hcl⟩)
  refine ⟨g.g k.hco (by simp; intro z; have := k.hco; rw [z, k.hcl] at this; cases this), by rw [e, List.map_append]; rfl, ⟨by rw [List.length_append, List.length_append, P2.1]; rfl, fun i a z' n' h1 h2 => ?_⟩, g.g k.hll (by simp; exact k.ncl.1.symm), g.g k.hsl (by simp; exact k.ncl.2.1.symm), k.ncl⟩
  by_cases hi : i < A.length
  · rw [List.getElem?_append_left hi] at h1
    rw [List.getElem?_append_left (by rw [← P2.1]; exact hi)] at h2
    exact P2.2 i a z' n' h1 h2
  · rw [List.getElem?_append_right (by omega)] at h1
    rw [List.getElem?_append_right (by rw [← P2.1]; omega), ← P2.1] at h2
    obtain ⟨j, hj⟩ : ∃ j, i - A.length = j := ⟨_, rfl⟩
    rw [hj] at h1 h2
    cases j with
    | zero =>
      cases h1
      cases h2
      exact q2
    | succ j => cases h1
theorem CoderAt.put {H H1 H2 : Hp} {C co dx fi gk cl ll sl q : Addr} {A : List Addr} {code : List (Str × Int)} {lits scs : List V} {z : Str} {n : Int} {p : Nat} (h : CoderAt H C co dx fi gk cl ll sl A code lits scs) (f : Fr [] H H1) (hq : H1 q = some (.tup [.str z, .int n]))
    (g : Fr [cl] H1 H2) (e : H2 cl = some (.lst ((A.map V.ref).set p (.ref q)))) : CoderAt H2 C co dx fi gk cl ll sl (A.set p q) (code.set p (z, n)) lits scs := by
  have k := h.keep f
  have q2 := g.g hq (by simp; intro z; rw [z, k.hcl] at hq; cases hq)
  have P2 := k.hcd.keepF g (by intro b hb; rw [List.mem_singleton.mp hb]; exact ⟨_, k.hcl⟩)
  refine ⟨g.g k.hco (by simp; intro z; have := k.hco; rw [z, k.hcl] at this; cases this), by rw [e, List.map_set], ⟨by rw [List.length_set, List.length_set, P2.1], fun i a z' n' h1 h2 => ?_⟩, g.g k.hll (by simp; exact k.ncl.1.symm), g.g k.hsl (by simp; exact k.ncl.2.1.symm), k.ncl⟩
  rw [List.getElem?_set] at h1 h2
  by_cases hi : p = i
  · rw [if_pos hi] at h1 h2
    split at h1
    · split at h2
      · cases h1
        cases h2
        exact q2
      · cases h2
    · cases h1
  · rw [if_neg hi] at h1 h2
    exact P2.2 i a z' n' h1 h2
theorem ixN_nat {n i : Nat} (h : i < n) : ixN n (i : Int) = some i := by
  unfold ixN
  rw [if_pos (by omega), if_pos (by omega)]
  simp
theorem Fr.noneF' {H H' : Hp} {a b : Addr} {o : HO} (f : Fr [a] H H') (ha : H' a = some o) (hb : H' b = Option.none) : H b = Option.none := by
  cases e : H b with
  | none => rfl
  | some u =>
    by_cases z : b = a
    · rw [z, ha] at hb; cases hb
    · rw [f.g e (by simp; exact z)] at hb; cases hb
section
variable {P : Program} {w : World} {K : PySem.W.Frag} {mg : Str → Option Value} {base : Heap}
def sp_emit (C : Addr) : Sp := fun vs H Q _ => ∃ co dx fi gk cl ll sl A code lits scs z n, vs = [.ref co, .str z, .int n] ∧ CoderAt H C co dx fi gk cl ll sl A code lits scs ∧ A.length ≤ 1000 ∧
  ∀ H' q, Fr [cl] H H' → (∀ b, H' b = none → H b = none) → CoderAt H' C co dx fi gk cl ll sl (A ++ [q]) (code ++ [(z, n)]) lits scs → Q (.int code.length) H'
theorem ok_Coder_emit (W : Wd P K mg) : FnOk P w K mg base CX0 1 W.f_Coder_emit W.fd_Coder_emit ["self", "op", "arg"] (sp_emit W.c_Coder) := by
  refine W.FD_Coder_emit.ok sc_Coder_emit (fun vs H Q E h => by obtain ⟨co, dx, fi, gk, cl, ll, sl, A, code, lits, scs, z, n, rfl, S, lA, k⟩ := h; rfl) (fun cdv A outer s H vs Q E hr h => ?_)
  obtain ⟨co, dx, fi, gk, cl, ll, sl, A, code, lits, scs, z, n, rfl, S, lA, k⟩ := h
  have hu1 := hu_of hr
  have hu64 := hu64_of hr
  refine ⟨_, (pss_cons (ps_expr (pe_bm PySem.F.plainAttrs_list PySem.F.slot_list_append PySem.F.type_list_append mt_append (pe_fld (pv 0) rfl) (pa_cons (pe_tup (pa_cons (pv 1) (pa_cons (pv 2) pa_nil))) pa_nil)))
      (pss_one (ps_ret (pe_op op_sub (pe_callB call_lenU (by rfl) W.n_len bb_len (pa_cons (pe_fld (pv 0) rfl) pa_nil)) pe_int)))), ?_⟩
  refine z_start (σ := [some _, some _, some _]) rfl ?_
  one_sign
  have hco := S.hco
  have hcl := S.hcl
  one_sign
  refine z_newL (by show 2 ≤ sizeLine; decide) fun q H1 hq f1 q1 => ?_
  have hcl1 := f1.g0 hcl
  have hco1 := f1.g0 hco
  one_sign
  refine z_append hcl1 (by rw [List.length_map, sizeLine_eq]; omega) fun H2 f2 e2 n2 => ?_
  have T := S.add f1 q1 f2 e2
  have hco2 := T.hco
  have hcl2 := T.hcl
  one_sign
  rw [show (((A ++ [q]).map V.ref).length : Int) - 1 = code.length by rw [List.length_map, List.length_append, S.hcd.1]; show ((code.length + 1 : Nat) : Int) - 1 = _; omega]
  exact k H2 q ((f1.mono (by simp)).trans f2) (fun b hb => f1.none (Fr.noneF' f2 e2 hb)) T
def sp_here (C : Addr) : Sp := fun vs H Q _ => ∃ co dx fi gk cl ll sl A code lits scs, vs = [.ref co] ∧ CoderAt H C co dx fi gk cl ll sl A code lits scs ∧ Q (.int code.length) H
theorem ok_Coder_here (W : Wd P K mg) : FnOk P w K mg base CX0 1 W.f_Coder_here W.fd_Coder_here ["self"] (sp_here W.c_Coder) := by
  refine W.F_Coder_here.ok sc_Coder_here (fun vs H Q E h => by obtain ⟨co, dx, fi, gk, cl, ll, sl, A, code, lits, scs, rfl, S, k⟩ := h; rfl) (fun cdv A outer s H vs Q E hr h => ?_)
  obtain ⟨co, dx, fi, gk, cl, ll, sl, A, code, lits, scs, rfl, S, k⟩ := h
  have hu1 := hu_of hr
  have hu64 := hu64_of hr
  refine ⟨_, (pss_one (ps_ret (pe_callB call_lenU (by rfl) W.n_len bb_len (pa_cons (pe_fld (pv 0) rfl) pa_nil)))), ?_⟩
  refine z_start (σ := [some _]) rfl ?_
  one_sign
  have hco := S.hco
  have hcl := S.hcl
  one_sign
  show Q _ H
  rw [List.length_map, S.hcd.1]
  exact k
def sp_aim (C : Addr) : Sp := fun vs H Q _ => ∃ co dx fi gk cl ll sl A code lits scs, ∃ (p : Nat) (z : Str) (n : Int), vs = [.ref co, .int p] ∧ CoderAt H C co dx fi gk cl ll sl A code lits scs ∧ code[p]? = some (z, n) ∧
  ∀ H' q, Fr [cl] H H' → (∀ b, H' b = none → H b = none) → CoderAt H' C co dx fi gk cl ll sl (A.set p q) (code.set p (z, code.length)) lits scs → Q .non H'
theorem ok_Coder_aim (W : Wd P K mg) : FnOk P w K mg base CX0 2 W.f_Coder_aim W.fd_Coder_aim ["self", "place"] (sp_aim W.c_Coder) := by
  refine W.F_Coder_aim.ok sc_Coder_aim (fun vs H Q E h => by obtain ⟨co, dx, fi, gk, cl, ll, sl, A, code, lits, scs, p, z, n, rfl, S, hp, k⟩ := h; rfl) (fun cdv A outer s H vs Q E hr h => ?_)
  obtain ⟨co, dx, fi, gk, cl, ll, sl, A, code, lits, scs, p, z, n, rfl, S, hp, k⟩ := h
  have hu1 := hu_of hr
  have hu64 := hu64_of hr
  refine ⟨_, (pss_one (ps_asg (pe_tup (pa_cons (pe_ix (ix_U hu1) (pe_ix (ix_U hu1) (pe_fld (pv 0) rfl) (pv 1) (fun _ _ => rfl)) pe_int (fun _ _ => rfl)) (pa_cons (pe_meth0 (pv 0) W.C_Coder W.m_Coder_here (ok_Coder_here W) (hr.mono (by decide)) W.b_Coder_here .nil pass0 ) pa_nil))) (pg_sub (pe_fld (pv 0) rfl) (pv 1) set_list))), ?_⟩
  refine z_start (σ := [some _, some _]) rfl ?_
  one_sign
  have hco := S.hco
  have hcl := S.hcl
  obtain ⟨ta, hta⟩ : ∃ ta, A[p]? = some ta := ⟨_, List.getElem?_eq_getElem (by rw [S.hcd.1]; exact (List.getElem?_eq_some_iff.mp hp).1)⟩
  have ht := S.hcd.2 p ta z n hta hp
  one_sign
  refine z_ixL hcl (atI_nat (ref_at hta)) ?_
  one_sign
  refine z_ixT ht (show _ = some (V.str z) from rfl) ?_
  one_sign
  refine ⟨co, dx, fi, gk, cl, ll, sl, A, code, lits, scs, rfl, S, ?_⟩
  one_sign
  refine z_newL (by show 2 ≤ sizeLine; decide) fun q H1 hq f1 q1 => ?_
  have hcl1 := f1.g0 hcl
  have hco1 := f1.g0 hco
  one_sign
  refine z_setL hcl1 (ixN_nat (by rw [List.length_map]; exact (List.getElem?_eq_some_iff.mp hta).1)) fun H2 f2 e2 n2 => ?_
  one_sign
  exact k H2 q ((f1.mono (by simp)).trans f2) (fun b hb => f1.none (Fr.noneF' f2 e2 hb)) (S.put f1 q1 f2 e2)
end

end LX
namespace LX
open PySem PySem.Spec PyProof.Rows L2 NdefX
set_option hygiene false in
local macro_rules | `(tactic| k_memK) => `(tactic| first | exact W.na_Draft_selector | exact W.na_Draft_argc | exact W.na_Draft_locals | exact W.na_Draft_stack | exact W.na_Draft_code | exact W.na_Draft_literals | exact W.na_Coder_fields | exact W.na_Coder_globals_known | exact W.na_Coder_code | exact W.na_Coder_literals | exact W.na_Coder_scopes)
set_option hygiene false in
local macro_rules | `(tactic| k_ownIn) => `(tactic| first | exact W.C_Draft | exact W.C_Coder)
local macro_rules | `(tactic| none_booked) => `(tactic| first | assumption | (refine Fr.g0 (by assumption) ?_; none_booked))
local macro_rules | `(tactic| one_sign) => `(tactic| repeat (first
  | refine Stp.h ?_
  | ((with_reducible refine' z_fld1 ?k0 ?k1 ?k2 ?k3 ?_); (case k0 => none_booked); (case k1 => k_ownIn); (case k2 => k_memK); (case k3 => rfl))
  | ((with_reducible refine' z_meth1 ?k0 ?k1 ?_); (case k0 => none_booked); (case k1 => rfl))
  | ((with_reducible refine' z_bmL ?k0 ?_); (case k0 => none_booked))
  | ((with_reducible refine' z_lenL ?k0 ?_); (case k0 => none_booked))
  | ((with_reducible refine' z_lenT ?k0 ?_); (case k0 => none_booked))
  | ((with_reducible refine' z_lenD ?k0 ?_); (case k0 => none_booked))
  | ((with_reducible refine' z_truL ?k0 ?_); (case k0 => none_booked))
  | ((with_reducible refine' z_truD ?k0 ?_); (case k0 => none_booked))
  | ((with_reducible refine' z_truT ?k0 ?_); (case k0 => none_booked))
  | ((with_reducible refine' z_inDIP ?k0 ?_); (case k0 => none_booked))
  | ((with_reducible refine' z_inDIN ?k0 ?_); (case k0 => none_booked))
  | ((with_reducible refine' z_inDfP ?k0 ?_); (case k0 => none_booked))
  | ((with_reducible refine' z_inDfN ?k0 ?_); (case k0 => none_booked))
  | ((with_reducible refine' z_iList1 ?k0 ?_); (case k0 => none_booked))
  | ((with_reducible refine' z_isi0 ?k0 ?k1 ?k2 ?_); (case k0 => exact (ClsV.ty _)); (case k1 => exact (TyX.base (TyOf.lst (by none_booked)))); (case k2 => first | exact kt_list_int | exact kt_list_bool | exact kt_list_str | exact kt_list_list | exact kt_list_tuple | exact kt_list_dict))
  | ((with_reducible refine' z_rI ?k0 ?_); (case k0 => first | exact (by decide : (0 : Int) < _) | exact ⟨by decide, by decide⟩ | exact ⟨by decide, by decide, by decide⟩ | (show (0 : Int) < _; omega)))
  | ((with_reducible refine' z_mulI ?k0 ?_); (case k0 => first | exact Or.inr ⟨by decide, by decide⟩ | exact Or.inl ⟨by decide, by decide⟩ | exact Or.inl ⟨by omega, by omega⟩ | exact Or.inr ⟨by omega, by omega⟩))))
local macro_rules | `(tactic| leaf_len) => `(tactic| (simp only [wipe, List.map_cons, List.map_nil, List.set_cons_zero, List.set_cons_succ]; one_sign; refine z_ok rfl ?_; one_sign))
section
variable {P : Program} {w : World} {K : PySem.W.Frag} {mg : Str → Option Value} {base : Heap}
def sp_no : Sp := fun _ _ _ _ => False
theorem no_fn {CX : CXT} {k : Nat} {f : Addr} {fd : FuncData} {ps : List Str} : FnOk P w K mg base CX k f fd ps sp_no := ⟨fun _ _ _ _ h => h.elim, fun _ _ _ _ _ _ _ _ _ _ _ _ _ h => h.elim⟩
theorem ok_Coder_literal (W : Wd P K mg) : FnOk P w K mg base CX0 1 W.f_Coder_literal W.fd_Coder_literal ["self", "literal"] sp_no := no_fn
theorem ok_Coder_name (W : Wd P K mg) : FnOk P w K mg base CX0 1 W.f_Coder_name W.fd_Coder_name ["self", "name", "at"] sp_no := no_fn
theorem ok_Coder_assign (W : Wd P K mg) : FnOk P w K mg base CX0 1 W.f_Coder_assign W.fd_Coder_assign ["self", "name", "at"] sp_no := no_fn
theorem ok_Coder_message (W : Wd P K mg) : FnOk P w K mg base CX0 1 W.f_Coder_message W.fd_Coder_message ["self", "op", "selector", "args"] sp_no := no_fn
theorem ok_Coder_send (W : Wd P K mg) : FnOk P w K mg base CX0 1 W.f_Coder_send W.fd_Coder_send ["self", "receiver", "selector", "args"] sp_no := no_fn
theorem ok0_Coder_expression (W : Wd P K mg) : FnOk P w K mg base (L2N.CX P w) 2 W.f_Coder_expression W.fd_Coder_expression ["self", "tree"] sp_no := no_fn
def NIL : Str := T [110, 105, 108]
def sp_seq0 (C : Addr) : Sp := fun vs H Q _ => ∃ co dx fi gk cl ll sl A code lits scs sa b, vs = [.ref co, .ref sa, .bl b] ∧ CoderAt H C co dx fi gk cl ll sl A code lits scs ∧ A.length ≤ 900 ∧ H sa = some (.tup []) ∧
  (b = true → Q (.bl true) H) ∧ (b = false → ∀ H' q, Fr [cl] H H' → (∀ b, H' b = none → H b = none) → CoderAt H' C co dx fi gk cl ll sl (A ++ [q]) (code ++ [(NIL, 0)]) lits scs → Q (.bl true) H')
theorem ok0_Coder_sequence (W : Wd P K mg) : FnOk P w K mg base (L2N.CX P w) 3 W.f_Coder_sequence W.fd_Coder_sequence ["self", "statements", "in_method"] (sp_seq0 W.c_Coder) := by
  refine okN W.F_Coder_sequence sc_Coder_sequence (fun vs H Q E h => by obtain ⟨co, dx, fi, gk, cl, ll, sl, A, code, lits, scs, sa, b, rfl, S, lA, hsa, k1, k2⟩ := h; rfl) (fun cdv A outer s H vs Q E hr h => ?_)
  obtain ⟨co, dx, fi, gk, cl, ll, sl, A, code, lits, scs, sa, b, rfl, S, lA, hsa, k1, k2⟩ := h
  have hu1 := hu_of hr
  have hu64 := hu64_of hr
  obtain ⟨ds_Coder_emit, vd_Coder_emit, bd_Coder_emit⟩ := W.bd_Coder_emit
  refine ⟨_, (pss_cons (ps_for (passes_of rfl) rfl (pi_range1 (by rfl) W.n_range (pa_cons (pe_callB call_lenU (by rfl) W.n_len bb_len (pa_cons (pv 1) pa_nil)) pa_nil)) (pg_name (i := 3) sc_Coder_sequence.nd rfl (by first | exact Or.inl rfl | exact Or.inr rfl)) (pss_cons (ps_set (i := 4) sc_Coder_sequence.nd rfl (by first | exact Or.inl rfl | exact Or.inr rfl) (pe_ix (ix_U hu1) (pv 1) (pv 3) (fun _ _ => rfl)))
      (pss_cons (ps_expr (pe_meth (pv 0) W.C_Coder W.m_Coder_expression (ok0_Coder_expression W) (hr.mono (by decide)) W.b_Coder_expression .nil (L2N.passes_call (L2N.takes_of rfl rfl rfl rfl) (fun _ _ _ _ h => h)) (pa_cons (pe_ix (ix_U hu1) (pv 4) pe_int (fun _ _ => rfl)) pa_nil)))
      (pss_cons (ps_if (pt_cmpR (op_eqU hu64) (pe_ix (ix_U hu1) (pv 4) pe_int (fun _ _ => rfl)) (pe_strT (show (PySem.Str.ofString "return") = T [114, 101, 116, 117, 114, 110] by decide +kernel)) (by first | exact nomark _ | rfl)) (pss_cons (ps_expr (pe_meth (pv 0) W.C_Coder W.m_Coder_emit (ok_Coder_emit W) (hr.mono (by decide)) bd_Coder_emit vd_Coder_emit pass0 (pa_cons (pe_strT (show (PySem.Str.ofString "return") = T [114, 101, 116, 117, 114, 110] by decide +kernel)) pa_nil)))
      (pss_one (ps_ret pe_bl))) pss_nil)
      (pss_one (ps_if (PW.pt (pw_or (pt_truth (pv 2) (by intro _; rfl)) (pw_or1 (pt_cmpR op_ltU (pv 3) (pe_op op_sub (pe_callB call_lenU (by rfl) W.n_len bb_len (pa_cons (pv 1) pa_nil)) pe_int) (by first | exact nomark _ | rfl))))) (pss_one (ps_expr (pe_meth (pv 0) W.C_Coder W.m_Coder_emit (ok_Coder_emit W) (hr.mono (by decide)) bd_Coder_emit vd_Coder_emit pass0 (pa_cons (pe_strT (show (PySem.Str.ofString "pop") = T [112, 111, 112] by decide +kernel)) pa_nil)))) pss_nil))))))
      (pss_cons (ps_if (PW.pt (pw_and (pt_cmpR (op_eqU hu64) (pe_callB call_lenU (by rfl) W.n_len bb_len (pa_cons (pv 1) pa_nil)) pe_int (by first | exact nomark _ | rfl)) (pw_and1 (pt_not (pt_truth (pv 2) (by intro _; rfl)))))) (pss_one (ps_expr (pe_meth (pv 0) W.C_Coder W.m_Coder_emit (ok_Coder_emit W) (hr.mono (by decide)) bd_Coder_emit vd_Coder_emit pass0 (pa_cons (pe_strT (show (PySem.Str.ofString "nil") = T [110, 105, 108] by decide +kernel)) pa_nil)))) pss_nil)
      (pss_one (ps_ret pe_bl)))), ?_⟩
  refine z_start (σ := [some _, some _, some _, none, none]) rfl ?_
  one_sign
  refine z_rng1 0 rfl (by decide) ?_
  refine for_range (lo := 0) (n := 0) (fun i σ H' => σ = [some (.ref co), some (.ref sa), some (.bl b), none, none] ∧ H' = H) ⟨rfl, rfl⟩ (fun i σ H' hi => absurd hi (by omega)) (fun σ H' hI => ?_)
  obtain ⟨rfl, rfl⟩ := hI
  one_sign
  have hco := S.hco
  refine iteD (fun _ => ?_) (fun h => absurd (by decide) h)
  cases b with
  | true =>
    one_sign
    exact k1 rfl
  | false =>
    one_sign
    refine ⟨co, dx, fi, gk, cl, ll, sl, A, code, lits, scs, NIL, 0, rfl, S, by omega, fun H1 q f1 n1 T => ?_⟩
    one_sign
    exact k2 rfl H1 q f1 n1 T
end

end LX
namespace LX
open PySem PySem.Spec PyProof.Rows L2 NdefX
set_option hygiene false in
local macro_rules | `(tactic| k_memK) => `(tactic| first | exact W.na_Draft_selector | exact W.na_Draft_argc | exact W.na_Draft_locals | exact W.na_Draft_stack | exact W.na_Draft_code | exact W.na_Draft_literals | exact W.na_Coder_fields | exact W.na_Coder_globals_known | exact W.na_Coder_code | exact W.na_Coder_literals | exact W.na_Coder_scopes)
set_option hygiene false in
local macro_rules | `(tactic| k_ownIn) => `(tactic| first | exact W.C_Draft | exact W.C_Coder)
local macro_rules | `(tactic| none_booked) => `(tactic| first | assumption | (refine Fr.g0 (by assumption) ?_; none_booked))
local macro_rules | `(tactic| one_sign) => `(tactic| repeat (first
  | refine Stp.h ?_
  | ((with_reducible refine' z_fld1 ?k0 ?k1 ?k2 ?k3 ?_); (case k0 => none_booked); (case k1 => k_ownIn); (case k2 => k_memK); (case k3 => rfl))
  | ((with_reducible refine' z_meth1 ?k0 ?k1 ?_); (case k0 => none_booked); (case k1 => rfl))
  | ((with_reducible refine' z_bmL ?k0 ?_); (case k0 => none_booked))
  | ((with_reducible refine' z_lenL ?k0 ?_); (case k0 => none_booked))
  | ((with_reducible refine' z_lenT ?k0 ?_); (case k0 => none_booked))
  | ((with_reducible refine' z_lenD ?k0 ?_); (case k0 => none_booked))
  | ((with_reducible refine' z_truL ?k0 ?_); (case k0 => none_booked))
  | ((with_reducible refine' z_truD ?k0 ?_); (case k0 => none_booked))
  | ((with_reducible refine' z_truT ?k0 ?_); (case k0 => none_booked))
  | ((with_reducible refine' z_inDIP ?k0 ?_); (case k0 => none_booked))
  | ((with_reducible refine' z_inDIN ?k0 ?_); (case k0 => none_booked))
  | ((with_reducible refine' z_inDfP ?k0 ?_); (case k0 => none_booked))
  | ((with_reducible refine' z_inDfN ?k0 ?_); (case k0 => none_booked))
  | ((with_reducible refine' z_iList1 ?k0 ?_); (case k0 => none_booked))
  | ((with_reducible refine' z_isi0 ?k0 ?k1 ?k2 ?_); (case k0 => exact (ClsV.ty _)); (case k1 => exact (TyX.base (TyOf.lst (by none_booked)))); (case k2 => first | exact kt_list_int | exact kt_list_bool | exact kt_list_str | exact kt_list_list | exact kt_list_tuple | exact kt_list_dict))
  | ((with_reducible refine' z_rI ?k0 ?_); (case k0 => first | exact (by decide : (0 : Int) < _) | exact ⟨by decide, by decide⟩ | exact ⟨by decide, by decide, by decide⟩ | (show (0 : Int) < _; omega)))
  | ((with_reducible refine' z_mulI ?k0 ?_); (case k0 => first | exact Or.inr ⟨by decide, by decide⟩ | exact Or.inl ⟨by decide, by decide⟩ | exact Or.inl ⟨by omega, by omega⟩ | exact Or.inr ⟨by omega, by omega⟩))))
local macro_rules | `(tactic| leaf_len) => `(tactic| (simp only [wipe, List.map_cons, List.map_nil, List.set_cons_zero, List.set_cons_succ]; one_sign; refine z_ok rfl ?_; one_sign))
theorem CoderAt.lit {H H' : Hp} {C co dx fi gk cl ll sl : Addr} {A : List Addr} {code : List (Str × Int)} {lits scs l2 : List V} (h : CoderAt H C co dx fi gk cl ll sl A code lits scs) (g : Fr [ll] H H') (e : H' ll = some (.lst l2)) : CoderAt H' C co dx fi gk cl ll sl A code l2 scs :=
  ⟨g.g h.hco (by simp; intro z; have := h.hco; rw [z, h.hll] at this; cases this), g.g h.hcl (by simp; exact h.ncl.1), h.hcd.keepF g (by intro b hb; rw [List.mem_singleton.mp hb]; exact ⟨_, h.hll⟩), e, g.g h.hsl (by simp; exact h.ncl.2.2.symm), h.ncl⟩
theorem CoderAt.sco {H H' : Hp} {C co dx fi gk cl ll sl : Addr} {A : List Addr} {code : List (Str × Int)} {lits scs l2 : List V} (h : CoderAt H C co dx fi gk cl ll sl A code lits scs) (g : Fr [sl] H H') (e : H' sl = some (.lst l2)) : CoderAt H' C co dx fi gk cl ll sl A code lits l2 :=
  ⟨g.g h.hco (by simp; intro z; have := h.hco; rw [z, h.hsl] at this; cases this), g.g h.hcl (by simp; exact h.ncl.2.1), h.hcd.keepF g (by intro b hb; rw [List.mem_singleton.mp hb]; exact ⟨_, h.hsl⟩), g.g h.hll (by simp; exact h.ncl.2.2), e, h.ncl⟩
section
variable {P : Program} {w : World} {K : PySem.W.Frag} {mg : Str → Option Value} {base : Heap}
/-- a block without statements, compiled into an empty coder -/
def sp_block (C cT cO : Addr) : Sp := fun vs H Q E => ∃ co dx fi gk cl ll sl scs pa ta sa A B ps, vs = [.ref co, .ref pa, .ref ta, .ref sa] ∧ CoderAt H C co dx fi gk cl ll sl [] [] [] scs ∧ scs.length ≤ 10 ∧ H sa = some (.tup []) ∧
  H pa = some (.tup (A.map V.ref)) ∧ H ta = some (.tup (B.map V.ref)) ∧ PrAt H (A ++ B) ps ∧ PrOk ps ∧
  (∀ j z n, ps[j]? = some (z, n) → (nms (ps.take j)).Nodup → z ∈ nms (ps.take j) → ∀ H' d, Fr [] H H' → H' d = none → E (.ref cT) (some d) (L2.upd H' d (.xd [("at", .int n), ("name", .str z)]))) ∧
  ((nms ps).Nodup → 255 < ps.length → ∀ H' d, Fr [] H H' → H' d = none → E (.ref cO) (some d) (L2.upd H' d (.xd [("limit", .str (T [108, 111, 99, 97, 108, 115]))]))) ∧
  ((nms ps).Nodup → ps.length ≤ 255 → ∀ H' A' t, Fr [cl, ll, sl] H H' → CoderAt H' C co dx fi gk cl ll sl A' [(BLK, 0), (JMP, 4), (NIL, 0), (T [108, 101, 97, 118, 101], 0)] [.ref t] scs → H' t = some (.tup [.str BLK, .int A.length, .int ps.length, .int 2, .int 0]) → Q .non H')
theorem ok_Coder_block (W : Wd P K mg) : FnOk P w K mg base (L2N.CX P w) 4 W.f_Coder_block W.fd_Coder_block ["self", "params", "temps", "statements"] (sp_block W.c_Coder W.c_Twice W.c_Oversized) := by
  refine okN W.F_Coder_block sc_Coder_block (fun vs H Q E h => by obtain ⟨co, dx, fi, gk, cl, ll, sl, scs, pa, ta, sa, A, B, ps, rfl, S, lS, hsa, hpa, hta, hP, ok, kT, kO, kQ⟩ := h; rfl) (fun cdv A outer s H vs Q E hr h => ?_)
  obtain ⟨co, dx, fi, gk, cl, ll, sl, scs, pa, ta, sa, A, B, ps, rfl, S, lS, hsa, hpa, hta, hP, ok, kT, kO, kQ⟩ := h
  have hu1 := hu_of hr
  have hu64 := hu64_of hr
  obtain ⟨ds_Coder_emit, vd_Coder_emit, bd_Coder_emit⟩ := W.bd_Coder_emit
  refine ⟨_, (pss_cons (ps_set (i := 4) sc_Coder_block.nd rfl (by first | exact Or.inl rfl | exact Or.inr rfl) (pe_call (ok_declared W) (hr.mono (by decide)) rfl W.g_declared W.F_declared.kp W.b_declared .nil (L2N.passes_call (L2N.takes_of rfl rfl rfl rfl) (fun _ _ _ _ h => h)) (pa_cons (pv 1) (pa_cons (pv 2) pa_nil))))
      (pss_cons (ps_set (i := 5) sc_Coder_block.nd rfl (by first | exact Or.inl rfl | exact Or.inr rfl) (pe_callB call_lenU (by rfl) W.n_len bb_len (pa_cons (pe_fld (pv 0) rfl) pa_nil)))
      (pss_cons (ps_expr (pe_bm PySem.F.plainAttrs_list PySem.F.slot_list_append PySem.F.type_list_append mt_append (pe_fld (pv 0) rfl) (pa_cons (pe_tup (pa_cons (pe_strT (show (PySem.Str.ofString "block") = T [98, 108, 111, 99, 107] by decide +kernel)) (pa_cons (pe_callB call_lenU (by rfl) W.n_len bb_len (pa_cons (pv 1) pa_nil)) (pa_cons (pe_callB call_lenU (by rfl) W.n_len bb_len (pa_cons (pv 4) pa_nil)) (pa_cons (pe_op op_sub (pe_un un_neg pe_int) (pv 5)) (pa_cons pe_int pa_nil)))))) pa_nil)))
      (pss_cons (ps_expr (pe_meth (pv 0) W.C_Coder W.m_Coder_emit (ok_Coder_emit W) (hr.mono (by decide)) W.b_Coder_emit .nil pass0 (pa_cons (pe_strT (show (PySem.Str.ofString "block") = T [98, 108, 111, 99, 107] by decide +kernel)) (pa_cons (pv 5) pa_nil))))
      (pss_cons (ps_set (i := 6) sc_Coder_block.nd rfl (by first | exact Or.inl rfl | exact Or.inr rfl) (pe_meth (pv 0) W.C_Coder W.m_Coder_emit (ok_Coder_emit W) (hr.mono (by decide)) bd_Coder_emit vd_Coder_emit pass0 (pa_cons (pe_strT (show (PySem.Str.ofString "jump") = T [106, 117, 109, 112] by decide +kernel)) pa_nil)))
      (pss_cons (ps_asg (pe_tup (pa_cons (pe_strT (show (PySem.Str.ofString "block") = T [98, 108, 111, 99, 107] by decide +kernel)) (pa_cons (pe_callB call_lenU (by rfl) W.n_len bb_len (pa_cons (pv 1) pa_nil)) (pa_cons (pe_callB call_lenU (by rfl) W.n_len bb_len (pa_cons (pv 4) pa_nil)) (pa_cons (pe_meth0 (pv 0) W.C_Coder W.m_Coder_here (ok_Coder_here W) (hr.mono (by decide)) W.b_Coder_here .nil pass0 ) (pa_cons pe_int pa_nil)))))) (pg_sub (pe_fld (pv 0) rfl) (pv 5) set_list))
      (pss_cons (ps_expr (pe_bm PySem.F.plainAttrs_list PySem.F.slot_list_append PySem.F.type_list_append mt_append (pe_fld (pv 0) rfl) (pa_cons (pv 4) pa_nil)))
      (pss_cons (ps_if (pt_truth (pe_meth (pv 0) W.C_Coder W.m_Coder_sequence (ok0_Coder_sequence W) (hr.mono (by decide)) W.b_Coder_sequence .nil (L2N.passes_call (L2N.takes_of rfl rfl rfl rfl) (fun _ _ _ _ h => h)) (pa_cons (pv 3) (pa_cons pe_bl pa_nil))) (by intro _; rfl)) (pss_one (ps_expr (pe_meth (pv 0) W.C_Coder W.m_Coder_emit (ok_Coder_emit W) (hr.mono (by decide)) bd_Coder_emit vd_Coder_emit pass0 (pa_cons (pe_strT (show (PySem.Str.ofString "leave") = T [108, 101, 97, 118, 101] by decide +kernel)) pa_nil)))) pss_nil)
      (pss_cons (ps_expr (pe_bm0 PySem.F.plainAttrs_list PySem.F.slot_list_pop PySem.F.type_list_pop mt_pop (pe_fld (pv 0) rfl) ))
      (pss_one (ps_expr (pe_meth (pv 0) W.C_Coder W.m_Coder_aim (ok_Coder_aim W) (hr.mono (by decide)) W.b_Coder_aim .nil pass0 (pa_cons (pv 6) pa_nil))))))))))))), ?_⟩
  refine z_start (σ := [some _, some _, some _, some _, none, none, none]) rfl ?_
  one_sign
  refine ⟨pa, ta, A, B, ps, rfl, hpa, hta, hP, ok, kT, kO, fun hn hl H1 d kvs f1 hd lk hd0 => ?_⟩
  have S1 := S.keep f1
  have hco1 := S1.hco
  have hll1 := S1.hll
  have hpa1 := f1.g0 hpa
  one_sign
  refine z_newL (by show 5 ≤ sizeLine; decide) fun t0 H2 ht0 f2 t2 => ?_
  have S2 := S1.keep f2
  have hco2 := S2.hco
  have hll2 := S2.hll
  one_sign
  refine z_append hll2 (by show 0 < sizeLine; decide) fun H3 f3 e3 n3 => ?_
  have S3 := S2.lit f3 e3
  have hco3 := S3.hco
  one_sign
  refine ⟨co, dx, fi, gk, cl, ll, sl, [], [], _, scs, BLK, 0, rfl, S3, by decide, fun H4 q4 f4 n4 S4 => ?_⟩
  have hco4 := S4.hco
  one_sign
  refine ⟨co, dx, fi, gk, cl, ll, sl, [q4], _, _, scs, JMP, 0, rfl, S4, (by show 1 ≤ 1000; decide), fun H5 q5 f5 n5 S5 => ?_⟩
  have hco5 := S5.hco
  have hpa5 : H5 pa = some (.tup (A.map V.ref)) := by
    refine f5.g (f4.g (f3.g (f2.g0 hpa1) ?_) ?_) ?_
    · simp; intro z; rw [z] at hpa1; have := S1.hll; rw [hpa1] at this; cases this
    · simp; intro z; rw [z] at hpa1; have := S1.hcl; rw [hpa1] at this; cases this
    · simp; intro z; rw [z] at hpa1; have := S1.hcl; rw [hpa1] at this; cases this
  have hd5 : H5 d = some (.dK kvs) := by
    refine f5.g (f4.g (f3.g (f2.g0 hd) ?_) ?_) ?_
    · simp; intro z; have := S1.hll; rw [← z, hd] at this; cases this
    · simp; intro z; have := S1.hcl; rw [← z, hd] at this; cases this
    · simp; intro z; have := S1.hcl; rw [← z, hd] at this; cases this
  one_sign
  refine ⟨co, dx, fi, gk, cl, ll, sl, _, _, _, scs, rfl, S5, ?_⟩
  one_sign
  refine z_newL (by show 5 ≤ sizeLine; decide) fun t H6 ht f6 t6 => ?_
  have S6 := S5.keep f6
  have hco6 := S6.hco
  have hll6 := S6.hll
  have hd6 := f6.g0 hd5
  one_sign
  refine z_setL hll6 (show ixN 1 0 = some 0 from rfl) fun H7 f7 e7 n7 => ?_
  have S7 := S6.lit f7 e7
  have hco7 := S7.hco
  have hsl7 := S7.hsl
  have m1 : ∀ b, b ∈ [cl] → b ∈ [cl, ll, sl] := by intro b h; simp at h ⊢; simp [h]
  have m2 : ∀ b, b ∈ [ll] → b ∈ [cl, ll, sl] := by intro b h; simp at h ⊢; simp [h]
  have m3 : ∀ b, b ∈ [sl] → b ∈ [cl, ll, sl] := by intro b h; simp at h ⊢; simp [h]
  have F7 : Fr [cl, ll, sl] H H7 := ((((((f1.trans f2).mono (by simp)).trans (f3.mono m2)).trans (f4.mono m1)).trans (f5.mono m1)).trans (f6.mono (by simp))).trans (f7.mono m2)
  one_sign
  refine z_append hsl7 (by rw [sizeLine_eq]; omega) fun H8 f8 e8 n8 => ?_
  have S8 := S7.sco f8 e8
  have hco8 := S8.hco
  have F8 := F7.trans (f8.mono m3)
  have hsa8 : H8 sa = some (.tup []) := F8.g hsa (by
    simp
    refine ⟨fun z => ?_, fun z => ?_, fun z => ?_⟩
    · have := S.hcl; rw [← z, hsa] at this; cases this
    · have := S.hll; rw [← z, hsa] at this; cases this
    · have := S.hsl; rw [← z, hsa] at this; cases this)
  one_sign
  refine ⟨co, dx, fi, gk, cl, ll, sl, _, _, _, _, sa, false, rfl, S8, (by show 2 ≤ 900; decide), hsa8, (fun z => by cases z), fun _ H9 q9 f9 n9 S9 => ?_⟩
  have hco9 := S9.hco
  one_sign
  refine ⟨co, dx, fi, gk, cl, ll, sl, _, _, _, _, T [108, 101, 97, 118, 101], 0, rfl, S9, (by show 3 ≤ 1000; decide), fun H10 q10 f10 n10 S10 => ?_⟩
  have hco10 := S10.hco
  have hsl10 := S10.hsl
  one_sign
  refine z_pop hsl10 (show (scs ++ [V.ref d])[(scs ++ [V.ref d]).length - 1]? = some (V.ref d) by simp) fun H11 f11 e11 n11 => ?_
  rw [List.dropLast_concat] at e11
  have S11 := S10.sco f11 e11
  have hco11 := S11.hco
  one_sign
  refine ⟨co, dx, fi, gk, cl, ll, sl, _, _, _, _, 1, JMP, 0, rfl, S11, rfl, fun H12 q12 f12 n12 S12 => ?_⟩
  one_sign
  have F612 : Fr [cl, ll, sl] H6 H12 := (((((f7.mono m2).trans (f8.mono m3)).trans (f9.mono m1)).trans (f10.mono m1)).trans (f11.mono m3)).trans (f12.mono m1)
  have F12 : Fr [cl, ll, sl] H H12 := (((F8.trans (f9.mono m1)).trans (f10.mono m1)).trans (f11.mono m3)).trans (f12.mono m1)
  have t12 := F612.g t6 (by
    simp
    refine ⟨fun z => ?_, fun z => ?_, fun z => ?_⟩
    · have := S6.hcl; rw [← z, t6] at this; cases this
    · have := S6.hll; rw [← z, t6] at this; cases this
    · have := S6.hsl; rw [← z, t6] at this; cases this)
  rw [lk, List.length_map] at t12
  exact kQ hn hl H12 _ t F12 S12 t12
end

end LX
namespace LX
open PySem PySem.Spec PyProof.Rows L2 NdefX
set_option hygiene false in
local macro_rules | `(tactic| k_memK) => `(tactic| first | exact W.na_Draft_selector | exact W.na_Draft_argc | exact W.na_Draft_locals | exact W.na_Draft_stack | exact W.na_Draft_code | exact W.na_Draft_literals | exact W.na_Coder_fields | exact W.na_Coder_globals_known | exact W.na_Coder_code | exact W.na_Coder_literals | exact W.na_Coder_scopes)
set_option hygiene false in
local macro_rules | `(tactic| k_ownIn) => `(tactic| first | exact W.C_Draft | exact W.C_Coder)
local macro_rules | `(tactic| none_booked) => `(tactic| first | assumption | (refine Fr.g0 (by assumption) ?_; none_booked))
local macro_rules | `(tactic| one_sign) => `(tactic| repeat (first
  | refine Stp.h ?_
  | ((with_reducible refine' z_fld1 ?k0 ?k1 ?k2 ?k3 ?_); (case k0 => none_booked); (case k1 => k_ownIn); (case k2 => k_memK); (case k3 => rfl))
  | ((with_reducible refine' z_meth1 ?k0 ?k1 ?_); (case k0 => none_booked); (case k1 => rfl))
  | ((with_reducible refine' z_bmL ?k0 ?_); (case k0 => none_booked))
  | ((with_reducible refine' z_lenL ?k0 ?_); (case k0 => none_booked))
  | ((with_reducible refine' z_lenT ?k0 ?_); (case k0 => none_booked))
  | ((with_reducible refine' z_lenD ?k0 ?_); (case k0 => none_booked))
  | ((with_reducible refine' z_truL ?k0 ?_); (case k0 => none_booked))
  | ((with_reducible refine' z_truD ?k0 ?_); (case k0 => none_booked))
  | ((with_reducible refine' z_truT ?k0 ?_); (case k0 => none_booked))
  | ((with_reducible refine' z_inDIP ?k0 ?_); (case k0 => none_booked))
  | ((with_reducible refine' z_inDIN ?k0 ?_); (case k0 => none_booked))
  | ((with_reducible refine' z_inDfP ?k0 ?_); (case k0 => none_booked))
  | ((with_reducible refine' z_inDfN ?k0 ?_); (case k0 => none_booked))
  | ((with_reducible refine' z_iList1 ?k0 ?_); (case k0 => none_booked))
  | ((with_reducible refine' z_isi0 ?k0 ?k1 ?k2 ?_); (case k0 => exact (ClsV.ty _)); (case k1 => exact (TyX.base (TyOf.lst (by none_booked)))); (case k2 => first | exact kt_list_int | exact kt_list_bool | exact kt_list_str | exact kt_list_list | exact kt_list_tuple | exact kt_list_dict))
  | ((with_reducible refine' z_rI ?k0 ?_); (case k0 => first | exact (by decide : (0 : Int) < _) | exact ⟨by decide, by decide⟩ | exact ⟨by decide, by decide, by decide⟩ | (show (0 : Int) < _; omega)))
  | ((with_reducible refine' z_mulI ?k0 ?_); (case k0 => first | exact Or.inr ⟨by decide, by decide⟩ | exact Or.inl ⟨by decide, by decide⟩ | exact Or.inl ⟨by omega, by omega⟩ | exact Or.inr ⟨by omega, by omega⟩))))
local macro_rules | `(tactic| leaf_len) => `(tactic| (simp only [wipe, List.map_cons, List.map_nil, List.set_cons_zero, List.set_cons_succ]; one_sign; refine z_ok rfl ?_; one_sign))
section
variable {P : Program} {w : World} {K : PySem.W.Frag} {mg : Str → Option Value} {base : Heap}
def RESs : List V := [.str (T [110, 105, 108]), .str (T [116, 114, 117, 101]), .str (T [102, 97, 108, 115, 101]), .str (T [115, 101, 108, 102])]
/-- a statement that gives a block without statements -/
def sp_expr (C cT cO : Addr) : Sp := fun vs H Q E => ∃ co dx fi gk cl ll sl scs pa ta sa A B ps tr ln, vs = [.ref co, .ref tr] ∧ H tr = some (.tup [.str BLK, .ref pa, .ref ta, .ref sa, .int ln]) ∧ CoderAt H C co dx fi gk cl ll sl [] [] [] scs ∧ scs.length ≤ 10 ∧ H sa = some (.tup []) ∧
  H pa = some (.tup (A.map V.ref)) ∧ H ta = some (.tup (B.map V.ref)) ∧ PrAt H (A ++ B) ps ∧ PrOk ps ∧
  (∀ j z n, ps[j]? = some (z, n) → (nms (ps.take j)).Nodup → z ∈ nms (ps.take j) → ∀ H' d, Fr [] H H' → H' d = none → E (.ref cT) (some d) (L2.upd H' d (.xd [("at", .int n), ("name", .str z)]))) ∧
  ((nms ps).Nodup → 255 < ps.length → ∀ H' d, Fr [] H H' → H' d = none → E (.ref cO) (some d) (L2.upd H' d (.xd [("limit", .str (T [108, 111, 99, 97, 108, 115]))]))) ∧
  ((nms ps).Nodup → ps.length ≤ 255 → ∀ H' A' t, Fr [cl, ll, sl] H H' → CoderAt H' C co dx fi gk cl ll sl A' [(BLK, 0), (JMP, 4), (NIL, 0), (T [108, 101, 97, 118, 101], 0)] [.ref t] scs → H' t = some (.tup [.str BLK, .int A.length, .int ps.length, .int 2, .int 0]) → Q .non H')
theorem ok_Coder_expression (W : Wd P K mg) : FnOk P w K mg base (L2N.CX P w) 5 W.f_Coder_expression W.fd_Coder_expression ["self", "tree"] (sp_expr W.c_Coder W.c_Twice W.c_Oversized) := by
  refine okN W.F_Coder_expression sc_Coder_expression (fun vs H Q E h => by obtain ⟨co, dx, fi, gk, cl, ll, sl, scs, pa, ta, sa, A, B, ps, tr, ln, rfl, htr, S, lS, hsa, hpa, hta, hP, ok, kT, kO, kQ⟩ := h; rfl) (fun cdv A outer s H vs Q E hr h => ?_)
  obtain ⟨co, dx, fi, gk, cl, ll, sl, scs, pa, ta, sa, A, B, ps, tr, ln, rfl, htr, S, lS, hsa, hpa, hta, hP, ok, kT, kO, kQ⟩ := h
  have hu1 := hu_of hr
  have hu64 := hu64_of hr
  obtain ⟨ds_Coder_emit, vd_Coder_emit, bd_Coder_emit⟩ := W.bd_Coder_emit
  refine ⟨_, (pss_cons (ps_set (i := 2) sc_Coder_expression.nd rfl (by first | exact Or.inl rfl | exact Or.inr rfl) (pe_ix (ix_U hu1) (pv 1) pe_int (fun _ _ => rfl)))
      (pss_one (ps_if (pt_cmpR (op_inU hu1) (pv 2) (pe_tup (pa_cons (pe_strT (show (PySem.Str.ofString "int") = T [105, 110, 116] by decide +kernel)) (pa_cons (pe_strT (show (PySem.Str.ofString "symbol") = T [115, 121, 109, 98, 111, 108] by decide +kernel)) pa_nil))) (by first | exact nomark _ | rfl)) (pss_one (ps_expr (pe_meth (pv 0) W.C_Coder W.m_Coder_emit (ok_Coder_emit W) (hr.mono (by decide)) W.b_Coder_emit .nil pass0 (pa_cons (pe_strT (show (PySem.Str.ofString "literal") = T [108, 105, 116, 101, 114, 97, 108] by decide +kernel)) (pa_cons (pe_meth (pv 0) W.C_Coder W.m_Coder_literal (ok_Coder_literal W) (hr.mono (by decide)) W.b_Coder_literal .nil pass0 (pa_cons (pv 1) pa_nil)) pa_nil))))) (pss_one (ps_if (pt_cmpR (op_inU hu1) (pv 2) (pe_gr rfl W.g_RESERVED) (by first | exact nomark _ | rfl)) (pss_one (ps_expr (pe_meth (pv 0) W.C_Coder W.m_Coder_emit (ok_Coder_emit W) (hr.mono (by decide)) bd_Coder_emit vd_Coder_emit pass0 (pa_cons (pv 2) pa_nil)))) (pss_one (ps_if (pt_cmpR (op_eqU hu64) (pv 2) (pe_strT (show (PySem.Str.ofString "var") = T [118, 97, 114] by decide +kernel)) (by first | exact nomark _ | rfl)) (pss_one (ps_expr (pe_meth (pv 0) W.C_Coder W.m_Coder_name (ok_Coder_name W) (hr.mono (by decide)) W.b_Coder_name .nil pass0 (pa_cons (pe_ix (ix_U hu1) (pv 1) pe_int (fun _ _ => rfl)) (pa_cons (pe_ix (ix_U hu1) (pv 1) pe_int (fun _ _ => rfl)) pa_nil))))) (pss_one (ps_if (pt_cmpR (op_eqU hu64) (pv 2) (pe_strT (show (PySem.Str.ofString "set") = T [115, 101, 116] by decide +kernel)) (by first | exact nomark _ | rfl)) (pss_cons (ps_expr (pe_meth (pv 0) W.C_Coder W.m_Coder_expression (ok0_Coder_expression W) (hr.mono (by decide)) W.b_Coder_expression .nil (L2N.passes_call (L2N.takes_of rfl rfl rfl rfl) (fun _ _ _ _ h => h)) (pa_cons (pe_ix (ix_U hu1) (pv 1) pe_int (fun _ _ => rfl)) pa_nil)))
      (pss_one (ps_expr (pe_meth (pv 0) W.C_Coder W.m_Coder_assign (ok_Coder_assign W) (hr.mono (by decide)) W.b_Coder_assign .nil pass0 (pa_cons (pe_ix (ix_U hu1) (pv 1) pe_int (fun _ _ => rfl)) (pa_cons (pe_ix (ix_U hu1) (pv 1) pe_int (fun _ _ => rfl)) pa_nil)))))) (pss_one (ps_if (pt_cmpR (op_eqU hu64) (pv 2) (pe_strT (show (PySem.Str.ofString "send") = T [115, 101, 110, 100] by decide +kernel)) (by first | exact nomark _ | rfl)) (pss_one (ps_expr (pe_meth (pv 0) W.C_Coder W.m_Coder_send (ok_Coder_send W) (hr.mono (by decide)) W.b_Coder_send .nil pass0 (pa_cons (pe_ix (ix_U hu1) (pv 1) pe_int (fun _ _ => rfl)) (pa_cons (pe_ix (ix_U hu1) (pv 1) pe_int (fun _ _ => rfl)) (pa_cons (pe_ix (ix_U hu1) (pv 1) pe_int (fun _ _ => rfl)) pa_nil)))))) (pss_one (ps_if (pt_cmpR (op_eqU hu64) (pv 2) (pe_strT (show (PySem.Str.ofString "super") = T [115, 117, 112, 101, 114] by decide +kernel)) (by first | exact nomark _ | rfl)) (pss_cons (ps_expr (pe_meth (pv 0) W.C_Coder W.m_Coder_emit (ok_Coder_emit W) (hr.mono (by decide)) bd_Coder_emit vd_Coder_emit pass0 (pa_cons (pe_strT (show (PySem.Str.ofString "self") = T [115, 101, 108, 102] by decide +kernel)) pa_nil)))
      (pss_one (ps_expr (pe_meth (pv 0) W.C_Coder W.m_Coder_message (ok_Coder_message W) (hr.mono (by decide)) W.b_Coder_message .nil pass0 (pa_cons (pe_strT (show (PySem.Str.ofString "super_send") = T [115, 117, 112, 101, 114, 95, 115, 101, 110, 100] by decide +kernel)) (pa_cons (pe_ix (ix_U hu1) (pv 1) pe_int (fun _ _ => rfl)) (pa_cons (pe_ix (ix_U hu1) (pv 1) pe_int (fun _ _ => rfl)) pa_nil))))))) (pss_one (ps_expr (pe_meth (pv 0) W.C_Coder W.m_Coder_block (ok_Coder_block W) (hr.mono (by decide)) W.b_Coder_block .nil (L2N.passes_call (L2N.takes_of rfl rfl rfl rfl) (fun _ _ _ _ h => h)) (pa_cons (pe_ix (ix_U hu1) (pv 1) pe_int (fun _ _ => rfl)) (pa_cons (pe_ix (ix_U hu1) (pv 1) pe_int (fun _ _ => rfl)) (pa_cons (pe_ix (ix_U hu1) (pv 1) pe_int (fun _ _ => rfl)) pa_nil))))))))))))))))))), ?_⟩
  refine z_start (σ := [some _, some _, none]) rfl ?_
  one_sign
  refine z_ixT htr (show _ = some (V.str BLK) from rfl) ?_
  one_sign
  refine z_newL (by show 2 ≤ sizeLine; decide) fun q H1 hq f1 q1 => ?_
  refine z_inS q1 rfl ⟨_, rfl, ?_⟩
  refine iteB (fun h => absurd h (by decide)) (fun _ => ?_)
  one_sign
  refine z_inK (xs := RESs) (W.tp_RESERVED _) rfl ⟨_, rfl, ?_⟩
  refine iteB (fun h => absurd h (by decide)) (fun _ => ?_)
  one_sign
  refine iteD (fun h => absurd h (by decide)) (fun _ => ?_)
  one_sign
  refine iteD (fun h => absurd h (by decide)) (fun _ => ?_)
  one_sign
  refine iteD (fun h => absurd h (by decide)) (fun _ => ?_)
  one_sign
  refine iteD (fun h => absurd h (by decide)) (fun _ => ?_)
  have htr1 := f1.g0 htr
  have S1 := S.keep f1
  have hco1 := S1.hco
  one_sign
  refine z_ixT htr1 (show _ = some (V.ref pa) from rfl) ?_
  one_sign
  refine z_ixT htr1 (show _ = some (V.ref ta) from rfl) ?_
  one_sign
  refine z_ixT htr1 (show _ = some (V.ref sa) from rfl) ?_
  one_sign
  refine ⟨co, dx, fi, gk, cl, ll, sl, scs, pa, ta, sa, A, B, ps, rfl, S1, lS, f1.g0 hsa, f1.g0 hpa, f1.g0 hta, hP.keep f1, ok, fun j z n h1 h2 h3 H' d f hd => kT j z n h1 h2 h3 H' d (f1.trans f) hd, fun h1 h2 H' d f hd => kO h1 h2 H' d (f1.trans f) hd, fun h1 h2 H' A' t f T ht => ?_⟩
  one_sign
  exact kQ h1 h2 H' A' t ((f1.mono (by simp)).trans f) T ht
def sp_seq1 (C cT cO : Addr) : Sp := fun vs H Q E => ∃ co dx fi gk cl ll sl scs pa ta sa A B ps tr ln st ss l2, vs = [.ref co, .ref ss, .bl true] ∧ H ss = some (.tup [.ref st]) ∧ H st = some (.tup [.str (T [114, 101, 116, 117, 114, 110]), .ref tr, .int l2]) ∧ H tr = some (.tup [.str BLK, .ref pa, .ref ta, .ref sa, .int ln]) ∧ CoderAt H C co dx fi gk cl ll sl [] [] [] scs ∧ scs.length ≤ 10 ∧ H sa = some (.tup []) ∧
  H pa = some (.tup (A.map V.ref)) ∧ H ta = some (.tup (B.map V.ref)) ∧ PrAt H (A ++ B) ps ∧ PrOk ps ∧
  (∀ j z n, ps[j]? = some (z, n) → (nms (ps.take j)).Nodup → z ∈ nms (ps.take j) → ∀ H' d, Fr [] H H' → H' d = none → E (.ref cT) (some d) (L2.upd H' d (.xd [("at", .int n), ("name", .str z)]))) ∧
  ((nms ps).Nodup → 255 < ps.length → ∀ H' d, Fr [] H H' → H' d = none → E (.ref cO) (some d) (L2.upd H' d (.xd [("limit", .str (T [108, 111, 99, 97, 108, 115]))]))) ∧
  ((nms ps).Nodup → ps.length ≤ 255 → ∀ H' A' t, Fr [cl, ll, sl] H H' → CoderAt H' C co dx fi gk cl ll sl A' [(BLK, 0), (JMP, 4), (NIL, 0), (T [108, 101, 97, 118, 101], 0), (T [114, 101, 116, 117, 114, 110], 0)] [.ref t] scs → H' t = some (.tup [.str BLK, .int A.length, .int ps.length, .int 2, .int 0]) → Q (.bl false) H')
theorem ok_Coder_sequence (W : Wd P K mg) : FnOk P w K mg base (L2N.CX P w) 6 W.f_Coder_sequence W.fd_Coder_sequence ["self", "statements", "in_method"] (sp_seq1 W.c_Coder W.c_Twice W.c_Oversized) := by
  refine okN W.F_Coder_sequence sc_Coder_sequence (fun vs H Q E h => by obtain ⟨co, dx, fi, gk, cl, ll, sl, scs, pa, ta, sa, A, B, ps, tr, ln, st, ss, l2, rfl, hss, hst, htr, S, lS, hsa, hpa, hta, hP, ok, kT, kO, kQ⟩ := h; rfl) (fun cdv A outer s H vs Q E hr h => ?_)
  obtain ⟨co, dx, fi, gk, cl, ll, sl, scs, pa, ta, sa, A, B, ps, tr, ln, st, ss, l2, rfl, hss, hst, htr, S, lS, hsa, hpa, hta, hP, ok, kT, kO, kQ⟩ := h
  have hu1 := hu_of hr
  have hu64 := hu64_of hr
  obtain ⟨ds_Coder_emit, vd_Coder_emit, bd_Coder_emit⟩ := W.bd_Coder_emit
  refine ⟨_, (pss_cons (ps_for (passes_of rfl) rfl (pi_range1 (by rfl) W.n_range (pa_cons (pe_callB call_lenU (by rfl) W.n_len bb_len (pa_cons (pv 1) pa_nil)) pa_nil)) (pg_name (i := 3) sc_Coder_sequence.nd rfl (by first | exact Or.inl rfl | exact Or.inr rfl)) (pss_cons (ps_set (i := 4) sc_Coder_sequence.nd rfl (by first | exact Or.inl rfl | exact Or.inr rfl) (pe_ix (ix_U hu1) (pv 1) (pv 3) (fun _ _ => rfl)))
      (pss_cons (ps_expr (pe_meth (pv 0) W.C_Coder W.m_Coder_expression (ok_Coder_expression W) (hr.mono (by decide)) W.b_Coder_expression .nil (L2N.passes_call (L2N.takes_of rfl rfl rfl rfl) (fun _ _ _ _ h => h)) (pa_cons (pe_ix (ix_U hu1) (pv 4) pe_int (fun _ _ => rfl)) pa_nil)))
      (pss_cons (ps_if (pt_cmpR (op_eqU hu64) (pe_ix (ix_U hu1) (pv 4) pe_int (fun _ _ => rfl)) (pe_strT (show (PySem.Str.ofString "return") = T [114, 101, 116, 117, 114, 110] by decide +kernel)) (by first | exact nomark _ | rfl)) (pss_cons (ps_expr (pe_meth (pv 0) W.C_Coder W.m_Coder_emit (ok_Coder_emit W) (hr.mono (by decide)) bd_Coder_emit vd_Coder_emit pass0 (pa_cons (pe_strT (show (PySem.Str.ofString "return") = T [114, 101, 116, 117, 114, 110] by decide +kernel)) pa_nil)))
      (pss_one (ps_ret pe_bl))) pss_nil)
      (pss_one (ps_if (PW.pt (pw_or (pt_truth (pv 2) (by intro _; rfl)) (pw_or1 (pt_cmpR op_ltU (pv 3) (pe_op op_sub (pe_callB call_lenU (by rfl) W.n_len bb_len (pa_cons (pv 1) pa_nil)) pe_int) (by first | exact nomark _ | rfl))))) (pss_one (ps_expr (pe_meth (pv 0) W.C_Coder W.m_Coder_emit (ok_Coder_emit W) (hr.mono (by decide)) bd_Coder_emit vd_Coder_emit pass0 (pa_cons (pe_strT (show (PySem.Str.ofString "pop") = T [112, 111, 112] by decide +kernel)) pa_nil)))) pss_nil))))))
      (pss_cons (ps_if (PW.pt (pw_and (pt_cmpR (op_eqU hu64) (pe_callB call_lenU (by rfl) W.n_len bb_len (pa_cons (pv 1) pa_nil)) pe_int (by first | exact nomark _ | rfl)) (pw_and1 (pt_not (pt_truth (pv 2) (by intro _; rfl)))))) (pss_one (ps_expr (pe_meth (pv 0) W.C_Coder W.m_Coder_emit (ok_Coder_emit W) (hr.mono (by decide)) bd_Coder_emit vd_Coder_emit pass0 (pa_cons (pe_strT (show (PySem.Str.ofString "nil") = T [110, 105, 108] by decide +kernel)) pa_nil)))) pss_nil)
      (pss_one (ps_ret pe_bl)))), ?_⟩
  refine z_start (σ := [some _, some _, some _, none, none]) rfl ?_
  one_sign
  refine z_rng1 1 rfl (by decide) ?_
  have hco := S.hco
  refine for_range (lo := 0) (n := 1) (fun i σ H' => i = 0 ∧ σ = [some (.ref co), some (.ref ss), some (.bl true), none, none] ∧ H' = H) ⟨rfl, rfl, rfl⟩ (fun i σ H' hi hI => ?_) (fun σ H' hI => absurd hI.1 (by decide))
  obtain ⟨rfl, rfl, rfl⟩ := hI
  one_sign
  refine z_ixT hss (show _ = some (V.ref st) from rfl) ?_
  one_sign
  refine z_ixT hst (show _ = some (V.ref tr) from rfl) ?_
  one_sign
  refine ⟨co, dx, fi, gk, cl, ll, sl, scs, pa, ta, sa, A, B, ps, tr, ln, rfl, htr, S, lS, hsa, hpa, hta, hP, ok, kT, kO, fun h1 h2 H1 A' t f T1 ht => ?_⟩
  have hco1 := T1.hco
  have hst1 : H1 st = _ := f.g hst (by
    simp
    refine ⟨fun z => ?_, fun z => ?_, fun z => ?_⟩
    · have := S.hcl; rw [← z, hst] at this; cases this
    · have := S.hll; rw [← z, hst] at this; cases this
    · have := S.hsl; rw [← z, hst] at this; cases this)
  one_sign
  refine z_ixT hst1 (show _ = some (V.str (T [114, 101, 116, 117, 114, 110])) from rfl) ?_
  one_sign
  refine iteD (fun _ => ?_) (fun h => absurd rfl h)
  one_sign
  refine ⟨co, dx, fi, gk, cl, ll, sl, _, _, _, _, T [114, 101, 116, 117, 114, 110], 0, rfl, T1, ?_, fun H2 q f2 n2 T2 => ?_⟩
  · rw [T1.hcd.1]; show 4 ≤ 1000; decide
  one_sign
  refine kQ h1 h2 H2 _ t (f.trans (f2.mono (by intro b h; simp at h ⊢; simp [h]))) T2 (f2.g ht ?_)
  simp
  intro z
  have := T1.hcl
  rw [← z, ht] at this
  cases this
end

end LX
namespace LX
open PySem PySem.Spec PyProof.Rows L2 NdefX
set_option hygiene false in
local macro_rules | `(tactic| k_memK) => `(tactic| first | exact W.na_Draft_selector | exact W.na_Draft_argc | exact W.na_Draft_locals | exact W.na_Draft_stack | exact W.na_Draft_code | exact W.na_Draft_literals | exact W.na_Coder_fields | exact W.na_Coder_globals_known | exact W.na_Coder_code | exact W.na_Coder_literals | exact W.na_Coder_scopes)
set_option hygiene false in
local macro_rules | `(tactic| k_ownIn) => `(tactic| first | exact W.C_Draft | exact W.C_Coder)
local macro_rules | `(tactic| none_booked) => `(tactic| first | assumption | (refine Fr.g0 (by assumption) ?_; none_booked))
local macro_rules | `(tactic| one_sign) => `(tactic| repeat (first
  | refine Stp.h ?_
  | ((with_reducible refine' z_fld1 ?k0 ?k1 ?k2 ?k3 ?_); (case k0 => none_booked); (case k1 => k_ownIn); (case k2 => k_memK); (case k3 => rfl))
  | ((with_reducible refine' z_meth1 ?k0 ?k1 ?_); (case k0 => none_booked); (case k1 => rfl))
  | ((with_reducible refine' z_bmL ?k0 ?_); (case k0 => none_booked))
  | ((with_reducible refine' z_lenL ?k0 ?_); (case k0 => none_booked))
  | ((with_reducible refine' z_lenT ?k0 ?_); (case k0 => none_booked))
  | ((with_reducible refine' z_lenD ?k0 ?_); (case k0 => none_booked))
  | ((with_reducible refine' z_truL ?k0 ?_); (case k0 => none_booked))
  | ((with_reducible refine' z_truD ?k0 ?_); (case k0 => none_booked))
  | ((with_reducible refine' z_truT ?k0 ?_); (case k0 => none_booked))
  | ((with_reducible refine' z_inDIP ?k0 ?_); (case k0 => none_booked))
  | ((with_reducible refine' z_inDIN ?k0 ?_); (case k0 => none_booked))
  | ((with_reducible refine' z_inDfP ?k0 ?_); (case k0 => none_booked))
  | ((with_reducible refine' z_inDfN ?k0 ?_); (case k0 => none_booked))
  | ((with_reducible refine' z_iList1 ?k0 ?_); (case k0 => none_booked))
  | ((with_reducible refine' z_isi0 ?k0 ?k1 ?k2 ?_); (case k0 => exact (ClsV.ty _)); (case k1 => exact (TyX.base (TyOf.lst (by none_booked)))); (case k2 => first | exact kt_list_int | exact kt_list_bool | exact kt_list_str | exact kt_list_list | exact kt_list_tuple | exact kt_list_dict))
  | ((with_reducible refine' z_rI ?k0 ?_); (case k0 => first | exact (by decide : (0 : Int) < _) | exact ⟨by decide, by decide⟩ | exact ⟨by decide, by decide, by decide⟩ | (show (0 : Int) < _; omega)))
  | ((with_reducible refine' z_mulI ?k0 ?_); (case k0 => first | exact Or.inr ⟨by decide, by decide⟩ | exact Or.inl ⟨by decide, by decide⟩ | exact Or.inl ⟨by omega, by omega⟩ | exact Or.inr ⟨by omega, by omega⟩))))
local macro_rules | `(tactic| leaf_len) => `(tactic| (simp only [wipe, List.map_cons, List.map_nil, List.set_cons_zero, List.set_cons_succ]; one_sign; refine z_ok rfl ?_; one_sign))
section
variable {P : Program} {w : World} {K : PySem.W.Frag} {mg : Str → Option Value} {base : Heap}
theorem run_end : Runs [(T [115, 101, 108, 102], 0), (T [114, 101, 116, 117, 114, 110], 0)] 0 [] 1 [] := ⟨2, _, by decide, rfl, rfl, rfl, rfl⟩
theorem run_blk : Runs [(BLK, 0), (JMP, 4), (NIL, 0), (T [108, 101, 97, 118, 101], 0), (T [114, 101, 116, 117, 114, 110], 0)] 0 [] 1 [0] := ⟨3, _, by decide, rfl, rfl, rfl, rfl⟩
theorem run_in : Runs [(BLK, 0), (JMP, 4), (NIL, 0), (T [108, 101, 97, 118, 101], 0), (T [114, 101, 116, 117, 114, 110], 0)] 2 [0] 1 [0] := ⟨2, _, by decide, rfl, rfl, rfl, rfl⟩
def sp_cinit (C : Addr) : Sp := fun vs H Q _ => ∃ co dx fa ga, vs = [.ref co, .ref fa, .ref ga] ∧ H co = some (.ins C dx []) ∧ H fa = some (.lst []) ∧ H ga = some (.lst []) ∧
  ∀ H' fi gk cl ll sl, Fr [co] H H' → CoderAt H' C co dx fi gk cl ll sl [] [] [] [] → H cl = none → H ll = none → H sl = none → Q .non H'
theorem ok_Coder___init__ (W : Wd P K mg) : FnOk P w K mg base CX0 1 W.f_Coder___init__ W.fd_Coder___init__ ["self", "fields", "globals_known"] (sp_cinit W.c_Coder) := by
  refine W.F_Coder___init__.ok sc_Coder___init__ (fun vs H Q E h => by obtain ⟨co, dx, fa, ga, rfl, hco, hfa, hga, k⟩ := h; rfl) (fun cdv A outer s H vs Q E hr h => ?_)
  obtain ⟨co, dx, fa, ga, rfl, hco, hfa, hga, k⟩ := h
  have hu1 := hu_of hr
  have hu64 := hu64_of hr
  refine ⟨_, (pss_cons (ps_fld (pv 0) (pe_callTy call_listU (by rfl) W.n_list bb_list (pa_cons (pv 1) pa_nil)) rfl)
      (pss_cons (ps_fld (pv 0) (pe_callTy call_listU (by rfl) W.n_list bb_list (pa_cons (pv 2) pa_nil)) rfl)
      (pss_cons (ps_fld (pv 0) (pe_lst pa_nil) rfl)
      (pss_cons (ps_fld (pv 0) (pe_lst pa_nil) rfl)
      (pss_one (ps_fld (pv 0) (pe_lst pa_nil) rfl)))))), ?_⟩
  refine z_start (σ := [some _, some _, some _]) rfl ?_
  one_sign
  refine z_listL hfa fun fi H1 hf1 f1 e1 => ?_
  have hco1 := f1.g0 hco
  one_sign
  refine z_flds1 hco1 W.C_Coder W.na_Coder_fields (by show 0 < 1000; decide) fun H2 g2 s2 n2 => ?_
  have hga2 := g2.g (f1.g0 hga) (nin (ne_of (f1.g0 hga) hco1 (by intro z; cases z)))
  one_sign
  refine z_listL hga2 fun gk H3 hf3 f3 e3 => ?_
  have s3 := f3.g0 s2
  one_sign
  refine z_flds1 s3 W.C_Coder W.na_Coder_globals_known (by show 1 < 1000; decide) fun H4 g4 s4 n4 => ?_
  one_sign
  refine z_newL (by show 0 ≤ sizeLine; decide) fun cl H5 hcl f5 c5 => ?_
  have s5 := f5.g0 s4
  one_sign
  refine z_flds1 s5 W.C_Coder W.na_Coder_code (by show 2 < 1000; decide) fun H6 g6 s6 n6 => ?_
  have c6 := g6.g c5 (nin (ne_of c5 s5 (by intro z; cases z)))
  one_sign
  refine z_newL (by show 0 ≤ sizeLine; decide) fun ll H7 hll f7 l7 => ?_
  have s7 := f7.g0 s6
  one_sign
  refine z_flds1 s7 W.C_Coder W.na_Coder_literals (by show 3 < 1000; decide) fun H8 g8 s8 n8 => ?_
  have l8 := g8.g l7 (nin (ne_of l7 s7 (by intro z; cases z)))
  have c8 := g8.g (f7.g0 c6) (nin (ne_of (f7.g0 c6) s7 (by intro z; cases z)))
  one_sign
  refine z_newL (by show 0 ≤ sizeLine; decide) fun sl H9 hsl f9 l9 => ?_
  have s9 := f9.g0 s8
  one_sign
  refine z_flds1 s9 W.C_Coder W.na_Coder_scopes (by show 4 < 1000; decide) fun H10 g10 s10 n10 => ?_
  have sl10 := g10.g l9 (nin (ne_of l9 s9 (by intro z; cases z)))
  have l10 := g10.g (f9.g0 l8) (nin (ne_of (f9.g0 l8) s9 (by intro z; cases z)))
  have c10 := g10.g (f9.g0 c8) (nin (ne_of (f9.g0 c8) s9 (by intro z; cases z)))
  have G4 : Fr [co] H H4 := (((f1.mono (by simp)).trans g2).trans (f3.mono (by simp))).trans g4
  have G6 : Fr [co] H H6 := (G4.trans (f5.mono (by simp))).trans g6
  have G8 : Fr [co] H H8 := (G6.trans (f7.mono (by simp))).trans g8
  have G10 : Fr [co] H H10 := (G8.trans (f9.mono (by simp))).trans g10
  one_sign
  exact k H10 fi gk cl ll sl G10 ⟨s10, c10, ⟨rfl, fun i a z n h _ => by cases h⟩, l10, sl10, ⟨ne_of_none c6 hll, ne_of_none c8 hsl, ne_of_none l8 hsl⟩⟩
    (G4.noneF hcl (nin fun z => by rw [z, s4] at hcl; cases hcl)) (G6.noneF hll (nin fun z => by rw [z, s6] at hll; cases hll)) (G8.noneF hsl (nin fun z => by rw [z, s8] at hsl; cases hsl))
end

end LX
namespace LX
open PySem PySem.Spec PyProof.Rows L2 NdefX
set_option hygiene false in
local macro_rules | `(tactic| k_memK) => `(tactic| first | exact W.na_Draft_selector | exact W.na_Draft_argc | exact W.na_Draft_locals | exact W.na_Draft_stack | exact W.na_Draft_code | exact W.na_Draft_literals | exact W.na_Coder_fields | exact W.na_Coder_globals_known | exact W.na_Coder_code | exact W.na_Coder_literals | exact W.na_Coder_scopes)
set_option hygiene false in
local macro_rules | `(tactic| k_ownIn) => `(tactic| first | exact W.C_Draft | exact W.C_Coder)
local macro_rules | `(tactic| none_booked) => `(tactic| first | assumption | (refine Fr.g0 (by assumption) ?_; none_booked))
local macro_rules | `(tactic| one_sign) => `(tactic| repeat (first
  | refine Stp.h ?_
  | ((with_reducible refine' z_fld1 ?k0 ?k1 ?k2 ?k3 ?_); (case k0 => none_booked); (case k1 => k_ownIn); (case k2 => k_memK); (case k3 => rfl))
  | ((with_reducible refine' z_meth1 ?k0 ?k1 ?_); (case k0 => none_booked); (case k1 => rfl))
  | ((with_reducible refine' z_bmL ?k0 ?_); (case k0 => none_booked))
  | ((with_reducible refine' z_lenL ?k0 ?_); (case k0 => none_booked))
  | ((with_reducible refine' z_lenT ?k0 ?_); (case k0 => none_booked))
  | ((with_reducible refine' z_lenD ?k0 ?_); (case k0 => none_booked))
  | ((with_reducible refine' z_truL ?k0 ?_); (case k0 => none_booked))
  | ((with_reducible refine' z_truD ?k0 ?_); (case k0 => none_booked))
  | ((with_reducible refine' z_truT ?k0 ?_); (case k0 => none_booked))
  | ((with_reducible refine' z_inDIP ?k0 ?_); (case k0 => none_booked))
  | ((with_reducible refine' z_inDIN ?k0 ?_); (case k0 => none_booked))
  | ((with_reducible refine' z_inDfP ?k0 ?_); (case k0 => none_booked))
  | ((with_reducible refine' z_inDfN ?k0 ?_); (case k0 => none_booked))
  | ((with_reducible refine' z_iList1 ?k0 ?_); (case k0 => none_booked))
  | ((with_reducible refine' z_isi0 ?k0 ?k1 ?k2 ?_); (case k0 => exact (ClsV.ty _)); (case k1 => exact (TyX.base (TyOf.lst (by none_booked)))); (case k2 => first | exact kt_list_int | exact kt_list_bool | exact kt_list_str | exact kt_list_list | exact kt_list_tuple | exact kt_list_dict))
  | ((with_reducible refine' z_rI ?k0 ?_); (case k0 => first | exact (by decide : (0 : Int) < _) | exact ⟨by decide, by decide⟩ | exact ⟨by decide, by decide, by decide⟩ | (show (0 : Int) < _; omega)))
  | ((with_reducible refine' z_mulI ?k0 ?_); (case k0 => first | exact Or.inr ⟨by decide, by decide⟩ | exact Or.inl ⟨by decide, by decide⟩ | exact Or.inl ⟨by omega, by omega⟩ | exact Or.inr ⟨by omega, by omega⟩))))
local macro_rules | `(tactic| leaf_len) => `(tactic| (simp only [wipe, List.map_cons, List.map_nil, List.set_cons_zero, List.set_cons_succ]; one_sign; refine z_ok rfl ?_; one_sign))
def dF17 (z : Str) (a c s : Int) (c2 l2 : Addr) : List (Str × V) := [("selector", .str z), ("argc", .int a), ("locals", .int c), ("stack", .int s), ("code", .ref c2), ("literals", .ref l2)]
section
variable {P : Program} {w : World} {K : PySem.W.Frag} {mg : Str → Option Value} {base : Heap}
def sp_dinit (C : Addr) : Sp := fun vs H Q _ => ∃ dr dx z a c s ca la X Y, vs = [.ref dr, .str z, .int a, .int c, .int s, .ref ca, .ref la] ∧ H dr = some (.ins C dx []) ∧ H ca = some (.lst X) ∧ H la = some (.lst Y) ∧
  ∀ H' c2 l2, Fr [dr] H H' → H' dr = some (.ins C dx (dF17 z a c s c2 l2)) → H' c2 = some (.lst X) → H' l2 = some (.lst Y) → Q .non H'
theorem ok_Draft___init__ (W : Wd P K mg) : FnOk P w K mg base CX0 1 W.f_Draft___init__ W.fd_Draft___init__ ["self", "selector", "argc", "count", "stack", "code", "literals"] (sp_dinit W.c_Draft) := by
  refine W.F_Draft___init__.ok sc_Draft___init__ (fun vs H Q E h => by obtain ⟨dr, dx, z, a, c, s', ca, la, X, Y, rfl, hdr, hca, hla, k⟩ := h; rfl) (fun cdv A outer s H vs Q E hr h => ?_)
  obtain ⟨dr, dx, z, a, c, s', ca, la, X, Y, rfl, hdr, hca, hla, k⟩ := h
  have hu1 := hu_of hr
  have hu64 := hu64_of hr
  refine ⟨_, (pss_cons (ps_fld (pv 0) (pv 1) rfl)
      (pss_cons (ps_fld (pv 0) (pv 2) rfl)
      (pss_cons (ps_fld (pv 0) (pv 3) rfl)
      (pss_cons (ps_fld (pv 0) (pv 4) rfl)
      (pss_cons (ps_fld (pv 0) (pe_callTy call_listU (by rfl) W.n_list bb_list (pa_cons (pv 5) pa_nil)) rfl)
      (pss_one (ps_fld (pv 0) (pe_callTy call_listU (by rfl) W.n_list bb_list (pa_cons (pv 6) pa_nil)) rfl))))))), ?_⟩
  refine z_start (σ := [some _, some _, some _, some _, some _, some _, some _]) rfl ?_
  one_sign
  have nca : ca ∉ [dr] := nin (ne_of hca hdr (by intro z; cases z))
  have nla : la ∉ [dr] := nin (ne_of hla hdr (by intro z; cases z))
  refine z_flds1 hdr W.C_Draft W.na_Draft_selector (by show 0 < 1000; decide) fun H1 g1 s1 n1 => ?_
  one_sign
  refine z_flds1 s1 W.C_Draft W.na_Draft_argc (by show 1 < 1000; decide) fun H2 g2 s2 n2 => ?_
  one_sign
  refine z_flds1 s2 W.C_Draft W.na_Draft_locals (by show 2 < 1000; decide) fun H3 g3 s3 n3 => ?_
  one_sign
  refine z_flds1 s3 W.C_Draft W.na_Draft_stack (by show 3 < 1000; decide) fun H4 g4 s4 n4 => ?_
  have G4 := ((g1.trans g2).trans g3).trans g4
  have hca4 := G4.g hca nca
  one_sign
  refine z_listL hca4 fun c2 H5 hc2 f5 c5 => ?_
  have s5 := f5.g0 s4
  one_sign
  refine z_flds1 s5 W.C_Draft W.na_Draft_code (by show 4 < 1000; decide) fun H6 g6 s6 n6 => ?_
  have G6 := (G4.trans (f5.mono (by simp))).trans g6
  have hla6 := G6.g hla nla
  have c6 := g6.g c5 (nin (ne_of c5 s5 (by intro z; cases z)))
  one_sign
  refine z_listL hla6 fun l2 H7 hl2 f7 l7 => ?_
  have s7 := f7.g0 s6
  one_sign
  refine z_flds1 s7 W.C_Draft W.na_Draft_literals (by show 5 < 1000; decide) fun H8 g8 s8 n8 => ?_
  have l8 := g8.g l7 (nin (ne_of l7 s7 (by intro z; cases z)))
  have c8 := g8.g (f7.g0 c6) (nin (ne_of (f7.g0 c6) s7 (by intro z; cases z)))
  one_sign
  exact k H8 c2 l2 ((G6.trans (f7.mono (by simp))).trans g8) s8 c8 l8
end

end LX
namespace LX
open PySem PySem.Spec PyProof.Rows L2 NdefX
section
variable {P : Program} {w : World} {K : PySem.W.Frag} {mg : Str → Option Value} {base : Heap}
theorem or_fn {CX : CXT} {k1 k : Nat} {f : Addr} {fd : FuncData} {ps : List Str} {sp1 sp2 : Sp} (F1 : FnOk P w K mg base CX k1 f fd ps sp1) (F2 : FnOk P w K mg base CX k f fd ps sp2) (h : k1 ≤ k) : FnOk P w K mg base CX k f fd ps (fun vs H Q E => sp1 vs H Q E ∨ sp2 vs H Q E) :=
  ⟨fun vs H Q E z => z.elim (F1.1 vs H Q E) (F2.1 vs H Q E), fun A outer s H args us vs Q E hr e0 hb r hsp => hsp.elim (F1.2 A outer s H args us vs Q E (hr.mono h) e0 hb r) (F2.2 A outer s H args us vs Q E hr e0 hb r)⟩
theorem ok2_Coder_sequence (W : Wd P K mg) : FnOk P w K mg base (L2N.CX P w) 6 W.f_Coder_sequence W.fd_Coder_sequence ["self", "statements", "in_method"] (fun vs H Q E => sp_seq0 W.c_Coder vs H Q E ∨ sp_seq1 W.c_Coder W.c_Twice W.c_Oversized vs H Q E) := or_fn (ok0_Coder_sequence W) (ok_Coder_sequence W) (by decide)
end

end LX
namespace LX
open PySem PySem.Spec PyProof.Rows L2 NdefX
set_option hygiene false in
local macro_rules | `(tactic| k_memK) => `(tactic| first | exact W.na_Draft_selector | exact W.na_Draft_argc | exact W.na_Draft_locals | exact W.na_Draft_stack | exact W.na_Draft_code | exact W.na_Draft_literals | exact W.na_Coder_fields | exact W.na_Coder_globals_known | exact W.na_Coder_code | exact W.na_Coder_literals | exact W.na_Coder_scopes)
set_option hygiene false in
local macro_rules | `(tactic| k_ownIn) => `(tactic| first | exact W.C_Draft | exact W.C_Coder)
local macro_rules | `(tactic| none_booked) => `(tactic| first | assumption | (refine Fr.g0 (by assumption) ?_; none_booked))
local macro_rules | `(tactic| one_sign) => `(tactic| repeat (first
  | refine Stp.h ?_
  | ((with_reducible refine' z_fld1 ?k0 ?k1 ?k2 ?k3 ?_); (case k0 => none_booked); (case k1 => k_ownIn); (case k2 => k_memK); (case k3 => rfl))
  | ((with_reducible refine' z_meth1 ?k0 ?k1 ?_); (case k0 => none_booked); (case k1 => rfl))
  | ((with_reducible refine' z_bmL ?k0 ?_); (case k0 => none_booked))
  | ((with_reducible refine' z_lenL ?k0 ?_); (case k0 => none_booked))
  | ((with_reducible refine' z_lenT ?k0 ?_); (case k0 => none_booked))
  | ((with_reducible refine' z_lenD ?k0 ?_); (case k0 => none_booked))
  | ((with_reducible refine' z_truL ?k0 ?_); (case k0 => none_booked))
  | ((with_reducible refine' z_truD ?k0 ?_); (case k0 => none_booked))
  | ((with_reducible refine' z_truT ?k0 ?_); (case k0 => none_booked))
  | ((with_reducible refine' z_inDIP ?k0 ?_); (case k0 => none_booked))
  | ((with_reducible refine' z_inDIN ?k0 ?_); (case k0 => none_booked))
  | ((with_reducible refine' z_inDfP ?k0 ?_); (case k0 => none_booked))
  | ((with_reducible refine' z_inDfN ?k0 ?_); (case k0 => none_booked))
  | ((with_reducible refine' z_iList1 ?k0 ?_); (case k0 => none_booked))
  | ((with_reducible refine' z_isi0 ?k0 ?k1 ?k2 ?_); (case k0 => exact (ClsV.ty _)); (case k1 => exact (TyX.base (TyOf.lst (by none_booked)))); (case k2 => first | exact kt_list_int | exact kt_list_bool | exact kt_list_str | exact kt_list_list | exact kt_list_tuple | exact kt_list_dict))
  | ((with_reducible refine' z_rI ?k0 ?_); (case k0 => first | exact (by decide : (0 : Int) < _) | exact ⟨by decide, by decide⟩ | exact ⟨by decide, by decide, by decide⟩ | (show (0 : Int) < _; omega)))
  | ((with_reducible refine' z_mulI ?k0 ?_); (case k0 => first | exact Or.inr ⟨by decide, by decide⟩ | exact Or.inl ⟨by decide, by decide⟩ | exact Or.inl ⟨by omega, by omega⟩ | exact Or.inr ⟨by omega, by omega⟩))))
local macro_rules | `(tactic| leaf_len) => `(tactic| (simp only [wipe, List.map_cons, List.map_nil, List.set_cons_zero, List.set_cons_succ]; one_sign; refine z_ok rfl ?_; one_sign))
section
variable {P : Program} {w : World} {K : PySem.W.Frag} {mg : Str → Option Value} {base : Heap}
def SLF : Str := T [115, 101, 108, 102]
def RET : Str := T [114, 101, 116, 117, 114, 110]
def LEV : Str := T [108, 101, 97, 118, 101]
/-- compile_method of a method whose names or whose one block's names are ps -/
def sp_compile (CD cT cO : Addr) : Sp := fun vs H Q E => ∃ t0 fa ga z0 sel e1 e2 ss pa ta sa A B ps, vs = [.ref t0, .ref fa, .ref ga] ∧ H t0 = some (.tup [.str z0, .str sel, .ref e1, .ref e2, .ref ss]) ∧ H fa = some (.lst []) ∧ H ga = some (.lst []) ∧
  H sa = some (.tup []) ∧ H pa = some (.tup (A.map V.ref)) ∧ H ta = some (.tup (B.map V.ref)) ∧ PrAt H (A ++ B) ps ∧ PrOk ps ∧
  (∀ j z n, ps[j]? = some (z, n) → (nms (ps.take j)).Nodup → z ∈ nms (ps.take j) → ∀ H' d, Fr [] H H' → H' d = none → E (.ref cT) (some d) (L2.upd H' d (.xd [("at", .int n), ("name", .str z)]))) ∧
  ((nms ps).Nodup → 255 < ps.length → ∀ H' d, Fr [] H H' → H' d = none → E (.ref cO) (some d) (L2.upd H' d (.xd [("limit", .str (T [108, 111, 99, 97, 108, 115]))]))) ∧
  ((e1 = pa ∧ e2 = ta ∧ ss = sa ∧ ((nms ps).Nodup → ps.length ≤ 255 → ∀ H' dr dx A' c2 l2, Fr [] H H' → H' dr = some (.ins CD dx (dF17 sel A.length ps.length 1 c2 l2)) → H' c2 = some (.lst (A'.map V.ref)) → PrAt H' A' [(SLF, 0), (RET, 0)] → Q (.ref dr) H')) ∨
   (∃ st tr ln l2, H e1 = some (.tup []) ∧ H e2 = some (.tup []) ∧ H ss = some (.tup [.ref st]) ∧ H st = some (.tup [.str RET, .ref tr, .int l2]) ∧ H tr = some (.tup [.str BLK, .ref pa, .ref ta, .ref sa, .int ln]) ∧
    ((nms ps).Nodup → ps.length ≤ 255 → ∀ H' dr dx c2 l2 t2, Fr [] H H' → H' dr = some (.ins CD dx (dF17 sel 0 0 1 c2 l2)) → H' l2 = some (.lst [.ref t2]) → H' t2 = some (.tup [.str BLK, .int A.length, .int ps.length, .int 2, .int 1]) → Q (.ref dr) H')))
theorem ok_compile_method (W : Wd P K mg) : FnOk P w K mg base (L2N.CX P w) 7 W.f_compile_method W.fd_compile_method ["tree", "fields", "globals_known"] (sp_compile W.c_Draft W.c_Twice W.c_Oversized) := by
  refine okN W.F_compile_method sc_compile_method (fun vs H Q E h => by obtain ⟨t0, fa, ga, z0, sel, e1, e2, ss, pa, ta, sa, A, B, ps, rfl, ht0, hfa, hga, hsa, hpa, hta, hP, ok, kT, kO, kQ⟩ := h; rfl) (fun cdv A outer s H vs Q E hr h => ?_)
  obtain ⟨t0, fa, ga, z0, sel, e1, e2, ss, pa, ta, sa, A, B, ps, rfl, ht0, hfa, hga, hsa, hpa, hta, hP, ok, kT, kO, kQ⟩ := h
  have hu1 := hu_of hr
  have hu64 := hu64_of hr
  obtain ⟨ds_Coder_emit, vd_Coder_emit, bd_Coder_emit⟩ := W.bd_Coder_emit
  refine ⟨_, (pss_cons (ps_set (i := 3) sc_compile_method.nd rfl (by first | exact Or.inl rfl | exact Or.inr rfl) (pe_make W.M_Coder (ok_Coder___init__ W) (hr.mono (by decide)) rfl W.g_Coder W.b_Coder___init__ .nil pass0 (pa_cons (pv 1) (pa_cons (pv 2) pa_nil))))
      (pss_cons (ps_set (i := 4) sc_compile_method.nd rfl (by first | exact Or.inl rfl | exact Or.inr rfl) (pe_call (ok_declared W) (hr.mono (by decide)) rfl W.g_declared W.F_declared.kp W.b_declared .nil (L2N.passes_call (L2N.takes_of rfl rfl rfl rfl) (fun _ _ _ _ h => h)) (pa_cons (pe_ix (ix_U hu1) (pv 0) pe_int (fun _ _ => rfl)) (pa_cons (pe_ix (ix_U hu1) (pv 0) pe_int (fun _ _ => rfl)) pa_nil))))
      (pss_cons (ps_expr (pe_bm PySem.F.plainAttrs_list PySem.F.slot_list_append PySem.F.type_list_append mt_append (pe_fld (pv 3) rfl) (pa_cons (pv 4) pa_nil)))
      (pss_cons (ps_if (pt_truth (pe_meth (pv 3) W.C_Coder W.m_Coder_sequence (ok2_Coder_sequence W) (hr.mono (by decide)) W.b_Coder_sequence .nil (L2N.passes_call (L2N.takes_of rfl rfl rfl rfl) (fun _ _ _ _ h => h)) (pa_cons (pe_ix (ix_U hu1) (pv 0) pe_int (fun _ _ => rfl)) (pa_cons pe_bl pa_nil))) (by intro _; rfl)) (pss_cons (ps_expr (pe_meth (pv 3) W.C_Coder W.m_Coder_emit (ok_Coder_emit W) (hr.mono (by decide)) bd_Coder_emit vd_Coder_emit pass0 (pa_cons (pe_strT (show (PySem.Str.ofString "self") = T [115, 101, 108, 102] by decide +kernel)) pa_nil)))
      (pss_one (ps_expr (pe_meth (pv 3) W.C_Coder W.m_Coder_emit (ok_Coder_emit W) (hr.mono (by decide)) bd_Coder_emit vd_Coder_emit pass0 (pa_cons (pe_strT (show (PySem.Str.ofString "return") = T [114, 101, 116, 117, 114, 110] by decide +kernel)) pa_nil))))) pss_nil)
      (pss_cons (ps_asg (pe_call (ok_with_stacks W) (hr.mono (by decide)) rfl W.g_with_stacks W.F_with_stacks.kp W.b_with_stacks .nil pass0 (pa_cons (pe_fld (pv 3) rfl) (pa_cons (pe_fld (pv 3) rfl) pa_nil))) (pg_tup rfl (pgs_cons (pg_name (i := 5) sc_compile_method.nd rfl (by first | exact Or.inl rfl | exact Or.inr rfl)) (pgs_cons (pg_name (i := 6) sc_compile_method.nd rfl (by first | exact Or.inl rfl | exact Or.inr rfl)) pgs_nil))))
      (pss_one (ps_ret (pe_make W.M_Draft (ok_Draft___init__ W) (hr.mono (by decide)) rfl W.g_Draft W.b_Draft___init__ .nil pass0 (pa_cons (pe_ix (ix_U hu1) (pv 0) pe_int (fun _ _ => rfl)) (pa_cons (pe_callB call_lenU (by rfl) W.n_len bb_len (pa_cons (pe_ix (ix_U hu1) (pv 0) pe_int (fun _ _ => rfl)) pa_nil)) (pa_cons (pe_callB call_lenU (by rfl) W.n_len bb_len (pa_cons (pv 4) pa_nil)) (pa_cons (pv 5) (pa_cons (pe_fld (pv 3) rfl) (pa_cons (pv 6) pa_nil)))))))))))))), ?_⟩
  refine z_start (σ := [some _, some _, some _, none, none, none, none]) rfl ?_
  one_sign
  intro co dx hco hdx ndx
  have hx0 : upd H dx (.own co) co = none := by rw [upd_ne ndx.symm]; exact hco
  have f0 : Fr [] H (upd (upd H dx (.own co)) co (.ins W.c_Coder dx [])) := (Fr.new hdx).trans (Fr.new hx0)
  refine ⟨co, dx, fa, ga, rfl, upd_same, f0.g0 hfa, f0.g0 hga, fun H1 fi gk cl ll sl f1 S1 hcl hll hsl => ⟨rfl, ?_⟩⟩
  have F1 : Fr [] H H1 := fun b o e _ => f1 b o (f0.g0 e) (nin (ne_of_none e hco))
  have t1 := F1.g0 ht0
  one_sign
  refine z_ixT t1 (show _ = some (V.ref e1) from rfl) ?_
  one_sign
  refine z_ixT t1 (show _ = some (V.ref e2) from rfl) ?_
  one_sign
  rcases kQ with ⟨rfl, rfl, rfl, kQ⟩ | ⟨st, tr, ln, l2, he1, he2, hss, hst, htr, kQ⟩
  · refine ⟨e1, e2, A, B, ps, rfl, F1.g0 hpa, F1.g0 hta, hP.keep F1, ok, fun j z n h1 h2 h3 H' d f hd => kT j z n h1 h2 h3 H' d (F1.trans f) hd, fun h1 h2 H' d f hd => kO h1 h2 H' d (F1.trans f) hd, fun hn hl H2 d kvs f2 hd lk hd0 => ?_⟩
    have S2 := S1.keep f2
    have hco2 := S2.hco
    have hsl2 := S2.hsl
    have F2 := F1.trans f2
    one_sign
    refine z_append hsl2 (by show 0 < sizeLine; decide) fun H3 f3 e3 n3 => ?_
    have S3 := S2.sco f3 e3
    have F3 : Fr [] H H3 := F2.in f3 (f0.none hsl)
    have hco3 := S3.hco
    have t3 := F3.g0 ht0
    have sa3 := F3.g0 hsa
    one_sign
    refine z_ixT t3 (show _ = some (V.ref ss) from rfl) ?_
    one_sign
    refine Or.inl ⟨co, dx, fi, gk, cl, ll, sl, [], [], [], _, ss, true, rfl, S3, (by show 0 ≤ 900; decide), sa3, fun _ => ?_, fun z => by cases z⟩
    one_sign
    refine ⟨co, dx, fi, gk, cl, ll, sl, _, _, _, _, SLF, 0, rfl, S3, (by show 0 ≤ 1000; decide), fun H4 q4 f4 n4 S4 => ?_⟩
    have hco4 := S4.hco
    one_sign
    refine ⟨co, dx, fi, gk, cl, ll, sl, _, _, _, _, RET, 0, rfl, S4, (by show 1 ≤ 1000; decide), fun H5 q5 f5 n5 S5 => ?_⟩
    have hco5 := S5.hco
    have F5 : Fr [] H H5 := (F3.in f4 (f0.none hcl)).in f5 (f0.none hcl)
    one_sign
    refine ⟨cl, ll, _, _, 1, rfl, S5.hcl, S5.hcd, (by show 2 ≤ 10000; decide), Or.inl ⟨S5.hll, run_end, fun H6 t r f6 ht e6 r6 => ?_⟩⟩
    one_sign
    refine z_gtup e6 rfl ?_
    have t6 := (F5.trans f6).g0 ht0
    have S6 := S5.keep f6
    have hco6 := S6.hco
    one_sign
    have hd6 := f6.g0 (f5.g (f4.g (f3.g hd (nin (ne_of hd S2.hsl (by intro z; cases z)))) (nin (ne_of hd S2.hcl (by intro z; cases z)))) (nin (ne_of hd S2.hcl (by intro z; cases z))))
    have pa6 := (F5.trans f6).g0 hpa
    refine z_ixT t6 (show _ = some (V.str sel) from rfl) ?_
    one_sign
    refine z_ixT t6 (show _ = some (V.ref e1) from rfl) ?_
    have hcl6 := S6.hcl
    one_sign
    intro dr dx2 hdr hdx2 ndx2
    have hx2 : upd H6 dx2 (.own dr) dr = none := by rw [upd_ne ndx2.symm]; exact hdr
    have f7 : Fr [] H6 (upd (upd H6 dx2 (.own dr)) dr (.ins W.c_Draft dx2 [])) := (Fr.new hdx2).trans (Fr.new hx2)
    have F6 := F5.trans f6
    refine ⟨dr, dx2, sel, _, _, _, cl, r, _, _, rfl, upd_same, f7.g0 hcl6, f7.g0 r6, fun H7 c2 l2 f8 e7 c7 l7 => ⟨rfl, ?_⟩⟩
    have f67 : Fr [] H6 H7 := fun b o e _ => f8 b o (f7.g0 e) (nin (ne_of_none e hdr))
    one_sign
    rw [List.length_map, lk] at e7
    exact kQ hn hl H7 dr dx2 _ c2 l2 (F6.trans f67) e7 c7 (S6.hcd.keep f67)
  · refine ⟨e1, e2, [], [], [], rfl, F1.g0 he1, F1.g0 he2, ⟨rfl, fun i a z n h _ => by cases h⟩, ⟨by decide, fun p h => by cases h⟩, fun j z n h => by simp at h, fun _ h => absurd h (by decide), fun _ _ H2 d kvs f2 hd lk hd0 => ?_⟩
    have S2 := S1.keep f2
    have hco2 := S2.hco
    have hsl2 := S2.hsl
    have F2 := F1.trans f2
    one_sign
    refine z_append hsl2 (by show 0 < sizeLine; decide) fun H3 f3 e3 n3 => ?_
    have S3 := S2.sco f3 e3
    have F3 : Fr [] H H3 := F2.in f3 (f0.none hsl)
    have hco3 := S3.hco
    have t3 := F3.g0 ht0
    one_sign
    refine z_ixT t3 (show _ = some (V.ref ss) from rfl) ?_
    one_sign
    refine Or.inr ⟨co, dx, fi, gk, cl, ll, sl, _, pa, ta, sa, A, B, ps, tr, ln, st, ss, l2, rfl, F3.g0 hss, F3.g0 hst, F3.g0 htr, S3, (by show 1 ≤ 10; decide), F3.g0 hsa, F3.g0 hpa, F3.g0 hta, hP.keep F3, ok, fun j z n h1 h2 h3 H' d f hd => kT j z n h1 h2 h3 H' d (F3.trans f) hd, fun h1 h2 H' d f hd => kO h1 h2 H' d (F3.trans f) hd, fun hn hl H4 A' t f4 S4 ht4 => ?_⟩
    have hco4 := S4.hco
    have F4 : Fr [] H H4 := fun b o e _ => f4 b o (F3.g0 e) (by
      simp
      exact ⟨ne_of_none e (f0.none hcl), ne_of_none e (f0.none hll), ne_of_none e (f0.none hsl)⟩)
    one_sign
    refine ⟨cl, ll, _, _, 1, rfl, S4.hcl, S4.hcd, (by show 5 ≤ 10000; decide), Or.inr ⟨t, _, _, 2, 1, S4.hll, ht4, run_blk, run_in, fun H5 u r t2 f5 hu e5 r5 t25 => ?_⟩⟩
    one_sign
    refine z_gtup e5 rfl ?_
    have F5 := F4.trans f5
    have t5 := F5.g0 ht0
    have S5 := S4.keep f5
    have hco5 := S5.hco
    have hcl5 := S5.hcl
    have e15 := F5.g0 he1
    have hd3 := f3.g hd (nin (ne_of hd S2.hsl (by intro z; cases z)))
    have hd5 := f5.g0 (f4.g hd3 (by
      simp
      exact ⟨ne_of hd3 S3.hcl (by intro z; cases z), ne_of hd3 S3.hll (by intro z; cases z), ne_of hd3 S3.hsl (by intro z; cases z)⟩))
    one_sign
    refine z_ixT t5 (show _ = some (V.str sel) from rfl) ?_
    one_sign
    refine z_ixT t5 (show _ = some (V.ref e1) from rfl) ?_
    one_sign
    intro dr dx2 hdr hdx2 ndx2
    have hx2 : upd H5 dx2 (.own dr) dr = none := by rw [upd_ne ndx2.symm]; exact hdr
    have f7 : Fr [] H5 (upd (upd H5 dx2 (.own dr)) dr (.ins W.c_Draft dx2 [])) := (Fr.new hdx2).trans (Fr.new hx2)
    refine ⟨dr, dx2, sel, _, _, _, cl, r, _, _, rfl, upd_same, f7.g0 hcl5, f7.g0 r5, fun H7 c2 l3 f8 e7 c7 l7 => ⟨rfl, ?_⟩⟩
    have f57 : Fr [] H5 H7 := fun b o e _ => f8 b o (f7.g0 e) (nin (ne_of_none e hdr))
    one_sign
    have lk0 : kvs.length = 0 := lk
    rw [lk0] at e7
    exact kQ hn hl H7 dr dx2 c2 l3 t2 (F5.trans f57) e7 l7 (f57.g0 t25)
end

end LX
namespace LX
open PySem PySem.Spec PyProof.Rows L2 NdefX
set_option hygiene false in
local macro_rules | `(tactic| k_memK) => `(tactic| first | exact W.na_Draft_selector | exact W.na_Draft_argc | exact W.na_Draft_locals | exact W.na_Draft_stack | exact W.na_Draft_code | exact W.na_Draft_literals | exact W.na_Coder_fields | exact W.na_Coder_globals_known | exact W.na_Coder_code | exact W.na_Coder_literals | exact W.na_Coder_scopes)
set_option hygiene false in
local macro_rules | `(tactic| k_ownIn) => `(tactic| first | exact W.C_Draft | exact W.C_Coder)
local macro_rules | `(tactic| none_booked) => `(tactic| first | assumption | (refine Fr.g0 (by assumption) ?_; none_booked))
local macro_rules | `(tactic| one_sign) => `(tactic| repeat (first
  | refine Stp.h ?_
  | ((with_reducible refine' z_fld1 ?k0 ?k1 ?k2 ?k3 ?_); (case k0 => none_booked); (case k1 => k_ownIn); (case k2 => k_memK); (case k3 => rfl))
  | ((with_reducible refine' z_meth1 ?k0 ?k1 ?_); (case k0 => none_booked); (case k1 => rfl))
  | ((with_reducible refine' z_bmL ?k0 ?_); (case k0 => none_booked))
  | ((with_reducible refine' z_lenL ?k0 ?_); (case k0 => none_booked))
  | ((with_reducible refine' z_lenT ?k0 ?_); (case k0 => none_booked))
  | ((with_reducible refine' z_lenD ?k0 ?_); (case k0 => none_booked))
  | ((with_reducible refine' z_truL ?k0 ?_); (case k0 => none_booked))
  | ((with_reducible refine' z_truD ?k0 ?_); (case k0 => none_booked))
  | ((with_reducible refine' z_truT ?k0 ?_); (case k0 => none_booked))
  | ((with_reducible refine' z_inDIP ?k0 ?_); (case k0 => none_booked))
  | ((with_reducible refine' z_inDIN ?k0 ?_); (case k0 => none_booked))
  | ((with_reducible refine' z_inDfP ?k0 ?_); (case k0 => none_booked))
  | ((with_reducible refine' z_inDfN ?k0 ?_); (case k0 => none_booked))
  | ((with_reducible refine' z_iList1 ?k0 ?_); (case k0 => none_booked))
  | ((with_reducible refine' z_isi0 ?k0 ?k1 ?k2 ?_); (case k0 => exact (ClsV.ty _)); (case k1 => exact (TyX.base (TyOf.lst (by none_booked)))); (case k2 => first | exact kt_list_int | exact kt_list_bool | exact kt_list_str | exact kt_list_list | exact kt_list_tuple | exact kt_list_dict))
  | ((with_reducible refine' z_rI ?k0 ?_); (case k0 => first | exact (by decide : (0 : Int) < _) | exact ⟨by decide, by decide⟩ | exact ⟨by decide, by decide, by decide⟩ | (show (0 : Int) < _; omega)))
  | ((with_reducible refine' z_mulI ?k0 ?_); (case k0 => first | exact Or.inr ⟨by decide, by decide⟩ | exact Or.inl ⟨by decide, by decide⟩ | exact Or.inl ⟨by omega, by omega⟩ | exact Or.inr ⟨by omega, by omega⟩))))
local macro_rules | `(tactic| leaf_len) => `(tactic| (simp only [wipe, List.map_cons, List.map_nil, List.set_cons_zero, List.set_cons_succ]; one_sign; refine z_ok rfl ?_; one_sign))
section
variable {P : Program} {w : World} {K : PySem.W.Frag} {mg : Str → Option Value} {base : Heap}
/-- what the law asks compile_method, its exceptions caught -/
theorem Fr.skip' {H H' H3 : Hp} {d : Addr} {o : HO} (f : Fr [] H H') (hd : H' d = Option.none) (g : Fr [] (L2.upd H' d o) H3) : Fr [] H H3 := (f.trans (Fr.new hd)).trans g
def sp_told (CD : Addr) : Sp := fun vs H Q _ => ∃ t0 z0 sel e1 e2 ss pa ta sa A B ps, vs = [.ref t0] ∧ H t0 = some (.tup [.str z0, .str sel, .ref e1, .ref e2, .ref ss]) ∧
  H sa = some (.tup []) ∧ H pa = some (.tup (A.map V.ref)) ∧ H ta = some (.tup (B.map V.ref)) ∧ PrAt H (A ++ B) ps ∧ PrOk ps ∧
  (∀ j z n, ps[j]? = some (z, n) → (nms (ps.take j)).Nodup → z ∈ nms (ps.take j) → ∀ H' t, Fr [] H H' → H' t = some (.tup [.str (T [84, 119, 105, 99, 101]), .str z, .int n]) → Q (.ref t) H') ∧
  ((nms ps).Nodup → 255 < ps.length → ∀ H', Fr [] H H' → Q (.str (T [108, 111, 99, 97, 108, 115])) H') ∧
  ((e1 = pa ∧ e2 = ta ∧ ss = sa ∧ ((nms ps).Nodup → ps.length ≤ 255 → ∀ H' dr dx A' c2 l2, Fr [] H H' → H' dr = some (.ins CD dx (dF17 sel A.length ps.length 1 c2 l2)) → H' c2 = some (.lst (A'.map V.ref)) → PrAt H' A' [(SLF, 0), (RET, 0)] → Q (.ref dr) H')) ∨
   (∃ st tr ln l2, H e1 = some (.tup []) ∧ H e2 = some (.tup []) ∧ H ss = some (.tup [.ref st]) ∧ H st = some (.tup [.str RET, .ref tr, .int l2]) ∧ H tr = some (.tup [.str BLK, .ref pa, .ref ta, .ref sa, .int ln]) ∧
    ((nms ps).Nodup → ps.length ≤ 255 → ∀ H' dr dx c2 l2 t2, Fr [] H H' → H' dr = some (.ins CD dx (dF17 sel 0 0 1 c2 l2)) → H' l2 = some (.lst [.ref t2]) → H' t2 = some (.tup [.str BLK, .int A.length, .int ps.length, .int 2, .int 1]) → Q (.ref dr) H')))
theorem ok__law_told (W : Wd P K mg) : FnOk P w K mg base CX0 8 W.f__law_told W.fd__law_told ["_law_tree"] (sp_told W.c_Draft) := by
  refine W.F__law_told.ok sc__law_told (fun vs H Q E h => by obtain ⟨t0, z0, sel, e1, e2, ss, pa, ta, sa, A, B, ps, rfl, ht0, hsa, hpa, hta, hP, ok, kT, kO, kQ⟩ := h; rfl) (fun cdv A outer s H vs Q E hr h => ?_)
  obtain ⟨t0, z0, sel, e1, e2, ss, pa, ta, sa, A, B, ps, rfl, ht0, hsa, hpa, hta, hP, ok, kT, kO, kQ⟩ := h
  have hu1 := hu_of hr
  have hu64 := hu64_of hr
  refine ⟨_, (pss_one (ps_tryH rfl rfl (fun _ pn xe tk _ => (pss_one (ps_ret (pe_callS (ok_compile_method W) (hr.mono (by decide)) rfl W.g_compile_method W.F_compile_method.kp W.b_compile_method (fun σ => L2N.passAt tk σ) (pa_cons (pv 0) (pa_cons (pe_lst pa_nil) (pa_cons (pe_lst pa_nil) pa_nil))))))) (hdl_as (i := 1) rfl rfl sc__law_told.nd rfl rfl ⟨rfl, by decide, .inl W.g_Twice⟩ (fun a oe cls d pn hz hf => (pss_one (ps_ret (pe_tup (pa_cons (pe_strT (show (PySem.Str.ofString "Twice") = T [84, 119, 105, 99, 101] by decide +kernel)) (pa_cons (pe_xfPK (K := K) rfl List.mem_cons_self (show PinE cls d oe from ⟨hz, hf⟩) (pv 1)) (pa_cons (pe_xfPK (K := K) rfl List.mem_cons_self (show PinE cls d oe from ⟨hz, hf⟩) (pv 1)) pa_nil))))))) (hdl_as (i := 1) rfl rfl sc__law_told.nd rfl rfl ⟨rfl, by decide, .inl W.g_Oversized⟩ (fun a oe cls d pn hz hf => (pss_one (ps_ret (pe_xfPK (K := K) rfl List.mem_cons_self (show PinE cls d oe from ⟨hz, hf⟩) (pv 1))))) (hdl_nil rfl rfl takes0N))))), ?_⟩
  refine z_start (σ := [some _, none]) rfl ?_
  one_sign
  unfold tCallS
  one_sign
  refine z_newL (by show 0 ≤ sizeLine; decide) fun fa H1 hf1 f1 fa1 => ?_
  one_sign
  refine z_newL (by show 0 ≤ sizeLine; decide) fun ga H2 hg2 f2 ga2 => ?_
  have F2 := f1.trans f2
  one_sign
  refine ⟨t0, fa, ga, z0, sel, e1, e2, ss, pa, ta, sa, A, B, ps, rfl, F2.g0 ht0, f2.g0 fa1, ga2, F2.g0 hsa, F2.g0 hpa, F2.g0 hta, hP.keep F2, ok, fun j z n h1 h2 h3 H' d f hd => ?_, fun h1 h2 H' d f hd => ?_, ?_⟩
  · refine ⟨true, W.em_TT, fun _ a ha => ?_, (fun z => by cases z)⟩
    one_sign
    refine ⟨_, rfl, rfl, _, _, _, _, rfl, W.E_Twice, W.xn_Twice_name, rfl, upd_same, rfl, ?_⟩
    refine ⟨_, rfl, rfl, _, _, _, _, rfl, W.E_Twice, W.xn_Twice_at, rfl, upd_same, rfl, ?_⟩
    refine z_newL (by show 3 ≤ sizeLine; decide) fun q H3 hq f3 q3 => ?_
    exact kT j z n h1 h2 h3 H3 q ((F2.trans f).skip' hd f3) q3
  · refine ⟨false, W.em_OT, (fun z => by cases z), fun _ => ⟨true, W.em_OO, fun _ a ha => ?_, (fun z => by cases z)⟩⟩
    one_sign
    refine ⟨_, rfl, rfl, _, _, _, _, rfl, W.E_Oversized, W.xn_Oversized_limit, rfl, upd_same, rfl, ?_⟩
    exact kO h1 h2 _ ((F2.trans f).trans (Fr.new hd))
  · rcases kQ with ⟨a1, a2, a3, kQ⟩ | ⟨st, tr, ln, l2, he1, he2, hss, hst, htr, kQ⟩
    · exact Or.inl ⟨a1, a2, a3, fun hn hl H' dr dx A' c2 l2 f e1 e2 e3 => kQ hn hl H' dr dx A' c2 l2 (F2.trans f) e1 e2 e3⟩
    · exact Or.inr ⟨st, tr, ln, l2, F2.g0 he1, F2.g0 he2, F2.g0 hss, F2.g0 hst, F2.g0 htr, fun hn hl H' dr dx c2 l2 t2 f e1 e2 e3 => kQ hn hl H' dr dx c2 l2 t2 (F2.trans f) e1 e2 e3⟩
end

end LX
namespace LX
open PySem PySem.Spec PyProof.Rows L2 NdefX
set_option hygiene false in
local macro_rules | `(tactic| k_memK) => `(tactic| first | exact W.na_Draft_selector | exact W.na_Draft_argc | exact W.na_Draft_locals | exact W.na_Draft_stack | exact W.na_Draft_code | exact W.na_Draft_literals | exact W.na_Coder_fields | exact W.na_Coder_globals_known | exact W.na_Coder_code | exact W.na_Coder_literals | exact W.na_Coder_scopes)
set_option hygiene false in
local macro_rules | `(tactic| k_ownIn) => `(tactic| first | exact W.C_Draft | exact W.C_Coder)
local macro_rules | `(tactic| none_booked) => `(tactic| first | assumption | (refine Fr.g0 (by assumption) ?_; none_booked))
local macro_rules | `(tactic| one_sign) => `(tactic| repeat (first
  | refine Stp.h ?_
  | ((with_reducible refine' z_fld1 ?k0 ?k1 ?k2 ?k3 ?_); (case k0 => none_booked); (case k1 => k_ownIn); (case k2 => k_memK); (case k3 => rfl))
  | ((with_reducible refine' z_meth1 ?k0 ?k1 ?_); (case k0 => none_booked); (case k1 => rfl))
  | ((with_reducible refine' z_bmL ?k0 ?_); (case k0 => none_booked))
  | ((with_reducible refine' z_lenL ?k0 ?_); (case k0 => none_booked))
  | ((with_reducible refine' z_lenT ?k0 ?_); (case k0 => none_booked))
  | ((with_reducible refine' z_lenD ?k0 ?_); (case k0 => none_booked))
  | ((with_reducible refine' z_truL ?k0 ?_); (case k0 => none_booked))
  | ((with_reducible refine' z_truD ?k0 ?_); (case k0 => none_booked))
  | ((with_reducible refine' z_truT ?k0 ?_); (case k0 => none_booked))
  | ((with_reducible refine' z_inDIP ?k0 ?_); (case k0 => none_booked))
  | ((with_reducible refine' z_inDIN ?k0 ?_); (case k0 => none_booked))
  | ((with_reducible refine' z_inDfP ?k0 ?_); (case k0 => none_booked))
  | ((with_reducible refine' z_inDfN ?k0 ?_); (case k0 => none_booked))
  | ((with_reducible refine' z_iList1 ?k0 ?_); (case k0 => none_booked))
  | ((with_reducible refine' z_isi0 ?k0 ?k1 ?k2 ?_); (case k0 => exact (ClsV.ty _)); (case k1 => exact (TyX.base (TyOf.lst (by none_booked)))); (case k2 => first | exact kt_list_int | exact kt_list_bool | exact kt_list_str | exact kt_list_list | exact kt_list_tuple | exact kt_list_dict))
  | ((with_reducible refine' z_rI ?k0 ?_); (case k0 => first | exact (by decide : (0 : Int) < _) | exact ⟨by decide, by decide⟩ | exact ⟨by decide, by decide, by decide⟩ | (show (0 : Int) < _; omega)))
  | ((with_reducible refine' z_mulI ?k0 ?_); (case k0 => first | exact Or.inr ⟨by decide, by decide⟩ | exact Or.inl ⟨by decide, by decide⟩ | exact Or.inl ⟨by omega, by omega⟩ | exact Or.inr ⟨by omega, by omega⟩))))
local macro_rules | `(tactic| leaf_len) => `(tactic| (simp only [wipe, List.map_cons, List.map_nil, List.set_cons_zero, List.set_cons_succ]; one_sign; refine z_ok rfl ?_; one_sign))
/-- the cell at i, 0 behind the end -/
def cellAt (ns : List Int) (i : Nat) : Int := ns.getD i 0
section
variable {P : Program} {w : World} {K : PySem.W.Frag} {mg : Str → Option Value} {base : Heap}
def sp_cell : Sp := fun vs H Q _ => ∃ a ns, ∃ i : Nat, vs = [.ref a, .int i] ∧ SqL K H a (ns.map V.int) ∧ Q (.int (cellAt ns i)) H
theorem ok__law_cell (W : Wd P K mg) : FnOk P w K mg base CX0 1 W.f__law_cell W.fd__law_cell ["_law_script", "_law_k"] (sp_cell (K := K)) := by
  refine W.F__law_cell.ok sc__law_cell (fun vs H Q E h => by obtain ⟨a, ns, i, rfl, hs, k⟩ := h; rfl) (fun cdv A outer s H vs Q E hr h => ?_)
  obtain ⟨a, ns, i, rfl, hs, k⟩ := h
  have hu1 := hu_of hr
  have hu64 := hu64_of hr
  refine ⟨_, (pss_cons (ps_if (pt_cmpR op_ltU (pv 1) (pe_callB call_lenU (by rfl) W.n_len bb_len (pa_cons (pv 0) pa_nil)) (by first | exact nomark _ | rfl)) (pss_one (ps_ret (pe_callTy call_intU (by rfl) W.n_int bb_int (pa_cons (pe_ix (ix_U hu1) (pv 0) (pv 1) (fun _ _ => rfl)) pa_nil)))) pss_nil)
      (pss_one (ps_ret pe_int))), ?_⟩
  refine z_start (σ := [some _, some _]) rfl ?_
  one_sign
  refine Or.inl ⟨_, Or.inl hs, ?_⟩
  rw [List.length_map]
  one_sign
  refine iteD (fun h => ?_) (fun h => ?_)
  · have hi : i < ns.length := by omega
    one_sign
    refine Or.inl ⟨_, _, _, rfl, Or.inl hs, atI_nat (show (ns.map V.int)[i]? = some (V.int ns[i]) by rw [List.getElem?_map, List.getElem?_eq_getElem hi]; rfl), ?_⟩
    one_sign
    rw [show cellAt ns i = ns[i] by unfold cellAt; simp [List.getD, hi]] at k
    exact k
  · have hi : ns.length ≤ i := by omega
    one_sign
    rw [show cellAt ns i = 0 by unfold cellAt; simp [List.getD, List.getElem?_eq_none hi]] at k
    exact k
end

end LX
namespace LX
open PySem PySem.Spec PyProof.Rows L2 NdefX
def vName (k : Nat) : Str := T [118] ++ PySem.Str.ofString (toString (k : Int))
theorem vName_nd : ((List.range 260).map vName).Nodup := by decide +kernel

end LX
namespace LX
open PySem PySem.Spec PyProof.Rows L2 NdefX
set_option hygiene false in
local macro_rules | `(tactic| k_memK) => `(tactic| first | exact W.na_Draft_selector | exact W.na_Draft_argc | exact W.na_Draft_locals | exact W.na_Draft_stack | exact W.na_Draft_code | exact W.na_Draft_literals | exact W.na_Coder_fields | exact W.na_Coder_globals_known | exact W.na_Coder_code | exact W.na_Coder_literals | exact W.na_Coder_scopes)
set_option hygiene false in
local macro_rules | `(tactic| k_ownIn) => `(tactic| first | exact W.C_Draft | exact W.C_Coder)
local macro_rules | `(tactic| none_booked) => `(tactic| first | assumption | (refine Fr.g0 (by assumption) ?_; none_booked))
local macro_rules | `(tactic| one_sign) => `(tactic| repeat (first
  | refine Stp.h ?_
  | ((with_reducible refine' z_fld1 ?k0 ?k1 ?k2 ?k3 ?_); (case k0 => none_booked); (case k1 => k_ownIn); (case k2 => k_memK); (case k3 => rfl))
  | ((with_reducible refine' z_meth1 ?k0 ?k1 ?_); (case k0 => none_booked); (case k1 => rfl))
  | ((with_reducible refine' z_bmL ?k0 ?_); (case k0 => none_booked))
  | ((with_reducible refine' z_lenL ?k0 ?_); (case k0 => none_booked))
  | ((with_reducible refine' z_lenT ?k0 ?_); (case k0 => none_booked))
  | ((with_reducible refine' z_lenD ?k0 ?_); (case k0 => none_booked))
  | ((with_reducible refine' z_truL ?k0 ?_); (case k0 => none_booked))
  | ((with_reducible refine' z_truD ?k0 ?_); (case k0 => none_booked))
  | ((with_reducible refine' z_truT ?k0 ?_); (case k0 => none_booked))
  | ((with_reducible refine' z_inDIP ?k0 ?_); (case k0 => none_booked))
  | ((with_reducible refine' z_inDIN ?k0 ?_); (case k0 => none_booked))
  | ((with_reducible refine' z_inDfP ?k0 ?_); (case k0 => none_booked))
  | ((with_reducible refine' z_inDfN ?k0 ?_); (case k0 => none_booked))
  | ((with_reducible refine' z_iList1 ?k0 ?_); (case k0 => none_booked))
  | ((with_reducible refine' z_isi0 ?k0 ?k1 ?k2 ?_); (case k0 => exact (ClsV.ty _)); (case k1 => exact (TyX.base (TyOf.lst (by none_booked)))); (case k2 => first | exact kt_list_int | exact kt_list_bool | exact kt_list_str | exact kt_list_list | exact kt_list_tuple | exact kt_list_dict))
  | ((with_reducible refine' z_rI ?k0 ?_); (case k0 => first | exact (by decide : (0 : Int) < _) | exact ⟨by decide, by decide⟩ | exact ⟨by decide, by decide, by decide⟩ | (show (0 : Int) < _; omega)))
  | ((with_reducible refine' z_mulI ?k0 ?_); (case k0 => first | exact Or.inr ⟨by decide, by decide⟩ | exact Or.inl ⟨by decide, by decide⟩ | exact Or.inl ⟨by omega, by omega⟩ | exact Or.inr ⟨by omega, by omega⟩))))
local macro_rules | `(tactic| leaf_len) => `(tactic| (simp only [wipe, List.map_cons, List.map_nil, List.set_cons_zero, List.set_cons_succ]; one_sign; refine z_ok rfl ?_; one_sign))
def prs (n : Nat) : List (Str × Int) := (List.range n).map fun k => (vName k, 3 * (k : Int))
theorem prs_succ (n : Nat) : prs (n + 1) = prs n ++ [(vName n, 3 * (n : Int))] := by
  unfold prs
  rw [List.range_succ, List.map_append]
  rfl
theorem PrAt.snoc {H : Hp} {A : List Addr} {ps : List (Str × Int)} {q : Addr} {z : Str} {n : Int} (h : PrAt H A ps) (hq : H q = some (.tup [.str z, .int n])) : PrAt H (A ++ [q]) (ps ++ [(z, n)]) :=
  ⟨by rw [List.length_append, List.length_append, h.1]; rfl, fun i a z' n' h1 h2 => by
    by_cases hi : i < A.length
    · rw [List.getElem?_append_left hi] at h1
      rw [List.getElem?_append_left (by rw [← h.1]; exact hi)] at h2
      exact h.2 i a z' n' h1 h2
    · rw [List.getElem?_append_right (by omega)] at h1
      rw [List.getElem?_append_right (by rw [← h.1]; omega), ← h.1] at h2
      obtain ⟨j, hj⟩ : ∃ j, i - A.length = j := ⟨_, rfl⟩
      rw [hj] at h1 h2
      cases j with
      | zero => cases h1; cases h2; exact hq
      | succ j => cases h1⟩
theorem vName_ok : ∀ i ∈ List.range 260, (vName i).length ≤ 1000 ∧ PyData.canLay0 (.str (vName i)) = true := by decide +kernel
theorem prs_len (n : Nat) : (prs n).length = n := by unfold prs; rw [List.length_map, List.length_range]
theorem prs_at {n i : Nat} (h : i < n) : (prs n)[i]? = some (vName i, 3 * (i : Int)) := by unfold prs; rw [List.getElem?_map, List.getElem?_range h]; rfl
theorem prs_take {n i : Nat} (h : i ≤ n) : (prs n).take i = prs i := by unfold prs; rw [← List.map_take, List.take_range, Nat.min_eq_left h]
theorem nms_prs (n : Nat) : nms (prs n) = (List.range n).map vName := by unfold nms prs; rw [List.map_map]; rfl
theorem prs_nd {n : Nat} (h : n ≤ 260) : (nms (prs n)).Nodup := by
  rw [nms_prs]
  have := vName_nd
  rw [show List.range 260 = (List.range 260).take n ++ (List.range 260).drop n by rw [List.take_append_drop], List.map_append] at this
  have := (List.nodup_append.mp this).1
  rwa [List.take_range, Nat.min_eq_left h] at this
theorem log3 {i : Nat} (h : i < 260) : (3 * (i : Int)).natAbs.log2 < 1920 := by
  have e : (3 * (i : Int)).natAbs = 3 * i := by omega
  rw [e]
  rcases Nat.eq_zero_or_pos i with z | z
  · rw [z]; decide
  · exact Nat.lt_trans ((Nat.log2_lt (n := 3 * i) (k := 10) (by omega)).mpr (by omega)) (by decide)
theorem prs_ok {n : Nat} (h : n ≤ 260) : PrOk (prs n) := ⟨by rw [prs_len]; omega, fun p hp => by
  obtain ⟨k, hk, e⟩ := List.mem_map.mp hp
  have hk' := List.mem_range.mp hk
  cases e
  exact ⟨(vName_ok k (List.mem_range.mpr (by omega))).1, log3 (by omega)⟩⟩
theorem PrAt.set {H : Hp} {A : List Addr} {ps : List (Str × Int)} {q : Addr} {z : Str} {n : Int} (h : PrAt H A ps) (j : Nat) (hq : H q = some (.tup [.str z, .int n])) : PrAt H (A.set j q) (ps.set j (z, n)) :=
  ⟨by rw [List.length_set, List.length_set, h.1], fun i a z' n' h1 h2 => by
    rw [List.getElem?_set] at h1 h2
    by_cases e : j = i
    · rw [if_pos e] at h1 h2
      split at h1
      · cases h1
        split at h2
        · cases h2; exact hq
        · cases h2
      · cases h1
    · rw [if_neg e] at h1 h2
      exact h.2 i a z' n' h1 h2⟩
theorem PrAt.keepT {H H' : Hp} {A : List Addr} {ps : List (Str × Int)} {F : List Addr} (h : PrAt H A ps) (f : Fr F H H') (hF : ∀ p ∈ F, ∃ xs, H p = some (.lst xs)) : PrAt H' A ps := h.keepF f hF
/-- slices of a tuple -/
theorem z_slLo {K : PySem.W.Frag} {H : Hp} {a : Addr} {xs : List V} {k : Nat} {Q : VK} (h1 : H a = some (.tup xs)) (hk : k < xs.length) (h : ∀ p H1, Fr [] H H1 → H1 p = some (.tup (xs.take k)) → Q (.ref p) H1) : rSlU K (.ref a) none (some (k : Int)) H Q := by
  refine Or.inr ⟨a, xs, rfl, SqT.of h1, fun e => absurd e.2 ?_, fun _ p hp => h p _ (Fr.new hp) ?_⟩
  · rw [HT.sIx_nat]; omega
  · rw [upd_same]
    unfold cutV
    rw [HT.sIx_none, HT.sIx_nat, List.drop_zero, Nat.min_eq_left (Nat.le_of_lt hk), Nat.sub_zero]
theorem z_slHi {K : PySem.W.Frag} {H : Hp} {a : Addr} {xs : List V} {k : Nat} {Q : VK} (h1 : H a = some (.tup xs)) (hk : k < xs.length) (h : ∀ p H1, Fr [] H H1 → H1 p = some (.tup (xs.drop k)) → Q (.ref p) H1) : rSlU K (.ref a) (some (k : Int)) none H Q := by
  refine Or.inr ⟨a, xs, rfl, SqT.of h1, fun e => h a H Fr.rfl' ?_, fun _ p hp => h p _ (Fr.new hp) ?_⟩
  · have e1 := e.1
    rw [HT.sIx_nat, Nat.min_eq_left (Nat.le_of_lt hk)] at e1
    rw [e1]; exact h1
  · rw [upd_same]
    unfold cutV
    rw [HT.sIx_none, HT.sIx_nat, Nat.min_eq_left (Nat.le_of_lt hk), List.take_of_length_le (by rw [List.length_drop]; exact Nat.le_refl _)]
theorem first_rep {ps : List (Str × Int)} {i j : Nat} {z : Str} {n : Int} (hn : (nms (ps.take i)).Nodup) (hj : j < i) (h : ps[j]? = some (z, n)) : z ∉ nms (ps.take j) := by
  intro hz
  have e : ps.take (j + 1) = ps.take j ++ [(z, n)] := by rw [List.take_succ, h]; rfl
  have e2 : (ps.take i).take (j + 1) = ps.take (j + 1) := by rw [List.take_take, Nat.min_eq_left (by omega)]
  have h1 : (nms (ps.take (j + 1))).Nodup := by
    rw [← e2]
    exact hn.sublist ((List.take_sublist _ _).map _)
  rw [e] at h1
  unfold nms at h1 hz
  rw [List.map_append] at h1
  exact (List.nodup_append.mp h1).2.2 z hz z (by simp) rfl
abbrev TTw : Str := T [84, 119, 105, 99, 101]
theorem okTw : PyData.canLay0 (.str TTw) = true := by decide +kernel
theorem okBLK : PyData.canLay0 (.str BLK) = true := by decide +kernel
theorem okSLF : PyData.canLay0 (.str SLF) = true := by decide +kernel
theorem okRET : PyData.canLay0 (.str RET) = true := by decide +kernel
theorem dp_ssi {K : PySem.W.Frag} {H : Hp} {a : Addr} {x y : Str} {n : Int} (h : H a = some (.tup [.str x, .str y, .int n])) : Dp K H (.ref a) (.tuple [.str x, .str y, .int n]) := Dp.tup (SqT.of h) (.cons (.str x) (.cons (.str y) (.cons (.int n) .nil)))
theorem sh_ssi {x y : Str} {n : Int} (h : PyData.canLay0 (.str x) = true) (h2 : PyData.canLay0 (.str y) = true) : SeqAt.shaped (.tuple [.str x, .str y, .int n]) = true := by
  unfold SeqAt.shaped
  simp only [PyData.canLay0] at h h2
  simp [PyData.canLay0, PyData.canLayAll0, PyData.depth, PyData.depthAll, h, h2]
theorem eq_ssi {x y : Str} {n : Int} : PyData.eqv (.tuple [.str x, .str y, .int n]) (.tuple [.str x, .str y, .int n]) = true := by simp [PyData.eqv, PyData.eqvAll]
theorem dp_si {K : PySem.W.Frag} {H : Hp} {a : Addr} {x : Str} {n : Int} (h : H a = some (.tup [.str x, .int n])) : Dp K H (.ref a) (.tuple [.str x, .int n]) := Dp.tup (SqT.of h) (.cons (.str x) (.cons (.int n) .nil))
theorem sh_sisi {x y : Str} {n m : Int} (h : PyData.canLay0 (.str x) = true) (h2 : PyData.canLay0 (.str y) = true) : SeqAt.shaped (.list [.tuple [.str x, .int n], .tuple [.str y, .int m]]) = true := by
  unfold SeqAt.shaped
  simp only [PyData.canLay0] at h h2
  simp [PyData.canLay0, PyData.canLayAll0, PyData.depth, PyData.depthAll, h, h2]
theorem eq_sisi {x y : Str} {n m : Int} : PyData.eqv (.list [.tuple [.str x, .int n], .tuple [.str y, .int m]]) (.list [.tuple [.str x, .int n], .tuple [.str y, .int m]]) = true := by simp [PyData.eqv, PyData.eqvAll]
theorem dp_5 {K : PySem.W.Frag} {H : Hp} {a : Addr} {x : Str} {n m i j : Int} (h : H a = some (.tup [.str x, .int n, .int m, .int i, .int j])) : Dp K H (.ref a) (.tuple [.str x, .int n, .int m, .int i, .int j]) := Dp.tup (SqT.of h) (.cons (.str x) (.cons (.int n) (.cons (.int m) (.cons (.int i) (.cons (.int j) .nil)))))
theorem sh_5 {x : Str} {n m i j : Int} (h : PyData.canLay0 (.str x) = true) : SeqAt.shaped (.list [.tuple [.str x, .int n, .int m, .int i, .int j]]) = true := by
  unfold SeqAt.shaped
  simp only [PyData.canLay0] at h
  simp [PyData.canLay0, PyData.canLayAll0, PyData.depth, PyData.depthAll, h]
theorem eq_5 {x : Str} {n m i j : Int} : PyData.eqv (.list [.tuple [.str x, .int n, .int m, .int i, .int j]]) (.list [.tuple [.str x, .int n, .int m, .int i, .int j]]) = true := by simp [PyData.eqv, PyData.eqvAll]
theorem k_of {Q : VK} {b : Bool} {H : Hp} (e : b = true) (h : Q (.bl true) H) : Q (.bl (id b)) H := by rw [e]; exact h
def Tree (H : Hp) (blk : Bool) (t0 : Addr) (pn : Nat) (ps : List (Str × Int)) : Prop := ∃ z0 sel e1 e2 ss pa ta sa A B, H t0 = some (.tup [.str z0, .str sel, .ref e1, .ref e2, .ref ss]) ∧
  H sa = some (.tup []) ∧ H pa = some (.tup (A.map V.ref)) ∧ H ta = some (.tup (B.map V.ref)) ∧ PrAt H (A ++ B) ps ∧ A.length = pn ∧
  ((blk = false ∧ e1 = pa ∧ e2 = ta ∧ ss = sa) ∨ (blk = true ∧ ∃ st tr ln l2, H e1 = some (.tup []) ∧ H e2 = some (.tup []) ∧ H ss = some (.tup [.ref st]) ∧ H st = some (.tup [.str RET, .ref tr, .int l2]) ∧ H tr = some (.tup [.str BLK, .ref pa, .ref ta, .ref sa, .int ln])))
section
variable {P : Program} {w : World} {K : PySem.W.Frag} {mg : Str → Option Value} {base : Heap}
def sp_law (K : PySem.W.Frag) : Sp := fun vs H Q _ => ∃ (a : Addr) (ns : List Int), vs = [.ref a] ∧ SqL K H a (ns.map V.int) ∧ ns.length ≤ 63 ∧ ∀ H', Q (.bl true) H'
theorem ok_law (W : Wd P K mg) : FnOk P w K mg base CX0 9 W.f_law W.fd_law ["_law_script"] (sp_law K) := by
  refine W.F_law.ok sc_law (fun vs H Q E h => by obtain ⟨a, ns, rfl, hs, hn, k⟩ := h; rfl) (fun cdv A outer s H vs Q E hr h => ?_)
  obtain ⟨a, ns, rfl, hs, hn, k⟩ := h
  have hu1 := hu_of hr
  have hu64 := hu64_of hr
  refine ⟨_, (pss_cons (ps_set (i := 1) sc_law.nd rfl (by first | exact Or.inl rfl | exact Or.inr rfl) (pe_call (ok__law_cell W) (hr.mono (by decide)) rfl W.g__law_cell W.F__law_cell.kp W.b__law_cell .nil pass0 (pa_cons (pv 0) (pa_cons pe_int pa_nil))))
      (pss_cons (ps_set (i := 2) sc_law.nd rfl (by first | exact Or.inl rfl | exact Or.inr rfl) (pe_op op_addU pe_int (pe_op op_mod (pv 1) pe_int)))
      (pss_cons (ps_set (i := 3) sc_law.nd rfl (by first | exact Or.inl rfl | exact Or.inr rfl) (pe_op op_mod (pe_op op_fdivW (pv 1) pe_int) pe_int))
      (pss_cons (ps_setLc (i := 4) (own := [("_law_k", 5)]) (g := gName 5) (tt := tYes) rfl sc_law.nd rfl rfl (sw_true rfl rfl rfl (by decide +kernel)) (pi_range1 (by rfl) W.n_range (pa_cons (pv 2) pa_nil)) (blkOk_by (N := N_law) (sc := defScope s_law) (by decide +kernel)) (fun _ _ _ _ _ => (pg_name (i := 5) sc_law.nd rfl (by first | exact Or.inl rfl | exact Or.inr rfl))) (fun _ _ _ _ _ => pts_nil) (fun _ _ _ _ _ => (pe_tup (pa_cons (pe_op (op_addUK (K := K) rfl) (pe_strT (show (PySem.Str.ofString "v") = T [118] by decide +kernel)) (pe_callTy call_strU (by rfl) W.n_str bb_str (pa_cons (pv 5) pa_nil))) (pa_cons (pe_op op_mulU pe_int (pv 5)) pa_nil)))))
      (pss_cons (ps_set (i := 6) sc_law.nd rfl (by first | exact Or.inl rfl | exact Or.inr rfl) pe_non)
      (Evl.pss_cut (ps_if (pt_cmpR (op_eqU hu64) (pe_op op_mod (pe_op op_fdivW (pv 1) pe_int) pe_int) pe_int (by first | exact nomark _ | rfl)) (pss_cons (ps_set (i := 7) sc_law.nd rfl (by first | exact Or.inl rfl | exact Or.inr rfl) (pe_op op_addU pe_int (pe_op op_mod (pe_op op_fdivW (pv 1) pe_int) (pe_op op_sub (pv 2) pe_int))))
      (pss_cons (ps_set (i := 6) sc_law.nd rfl (by first | exact Or.inl rfl | exact Or.inr rfl) (pv 7))
      (pss_one (ps_asg (pe_tup (pa_cons (pe_ix (ix_U hu1) (pe_ix (ix_U hu1) (pv 4) (pe_op op_mod (pe_op op_fdivW (pv 1) pe_int) (pv 7)) (fun _ _ => rfl)) pe_int (fun _ _ => rfl)) (pa_cons (pe_op op_mulU pe_int (pv 7)) pa_nil))) (pg_sub (pv 4) (pv 7) set_list))))) pss_nil)
      (pss_cons (ps_set (i := 8) sc_law.nd rfl (by first | exact Or.inl rfl | exact Or.inr rfl) (pe_callTy call_tupleU (by rfl) W.n_tuple bb_tuple (pa_cons (pv 4) pa_nil)))
      (pss_cons (ps_set (i := 9) sc_law.nd rfl (by first | exact Or.inl rfl | exact Or.inr rfl) (pe_ix (ix_U hu1) (pe_lst (pa_cons (pe_strT (show (PySem.Str.ofString "size") = T [115, 105, 122, 101] by decide +kernel)) (pa_cons (pe_strT (show (PySem.Str.ofString "at:") = T [97, 116, 58] by decide +kernel)) (pa_cons (pe_strT (show (PySem.Str.ofString "at:put:") = T [97, 116, 58, 112, 117, 116, 58] by decide +kernel)) pa_nil)))) (pv 3) (fun _ _ => rfl)))
      (pss_cons (ps_set (i := 10) sc_law.nd rfl (by first | exact Or.inl rfl | exact Or.inr rfl) (pe_tup (pa_cons (pe_strT (show (PySem.Str.ofString "method") = T [109, 101, 116, 104, 111, 100] by decide +kernel)) (pa_cons (pv 9) (pa_cons (pe_slice sl_U (pv 8) po_none (po_some (pv 3))) (pa_cons (pe_slice sl_U (pv 8) (po_some (pv 3)) po_none) (pa_cons (pe_tup pa_nil) pa_nil)))))))
      (Evl.pss_cut (ps_if (pt_cmpR (op_eqU hu64) (pe_op op_mod (pe_op op_fdivW (pv 1) pe_int) pe_int) pe_int (by first | exact nomark _ | rfl)) (pss_cons (ps_set (i := 11) sc_law.nd rfl (by first | exact Or.inl rfl | exact Or.inr rfl) (pe_tup (pa_cons (pe_strT (show (PySem.Str.ofString "block") = T [98, 108, 111, 99, 107] by decide +kernel)) (pa_cons (pe_slice sl_U (pv 8) po_none (po_some (pv 3))) (pa_cons (pe_slice sl_U (pv 8) (po_some (pv 3)) po_none) (pa_cons (pe_tup pa_nil) (pa_cons pe_int pa_nil)))))))
      (pss_one (ps_set (i := 10) sc_law.nd rfl (by first | exact Or.inl rfl | exact Or.inr rfl) (pe_tup (pa_cons (pe_strT (show (PySem.Str.ofString "method") = T [109, 101, 116, 104, 111, 100] by decide +kernel)) (pa_cons (pe_strT (show (PySem.Str.ofString "size") = T [115, 105, 122, 101] by decide +kernel)) (pa_cons (pe_tup pa_nil) (pa_cons (pe_tup pa_nil) (pa_cons (pe_tup (pa_cons (pe_tup (pa_cons (pe_strT (show (PySem.Str.ofString "return") = T [114, 101, 116, 117, 114, 110] by decide +kernel)) (pa_cons (pv 11) (pa_cons pe_int pa_nil)))) pa_nil)) pa_nil))))))))) pss_nil)
      (pss_cons (ps_set (i := 12) sc_law.nd rfl (by first | exact Or.inl rfl | exact Or.inr rfl) (pe_call (ok__law_told W) (hr.mono (by decide)) rfl W.g__law_told W.F__law_told.kp W.b__law_told .nil pass0 (pa_cons (pv 10) pa_nil)))
      (Evl.pss_cut (ps_if (pt_cmpR op_isnotU (pv 6) pe_non (by first | exact nomark _ | rfl)) (pss_one (ps_ret (pe_cmpR (op_eqU hu64) (pv 12) (pe_tup (pa_cons (pe_strT (show (PySem.Str.ofString "Twice") = T [84, 119, 105, 99, 101] by decide +kernel)) (pa_cons (pe_ix (ix_U hu1) (pe_ix (ix_U hu1) (pv 4) (pv 6) (fun _ _ => rfl)) pe_int (fun _ _ => rfl)) (pa_cons (pe_op op_mulU pe_int (pv 6)) pa_nil)))) (by first | exact nomark _ | rfl)))) pss_nil)
      (Evl.pss_cut (ps_if (pt_cmpR op_gtU (pv 2) pe_int (by first | exact nomark _ | rfl)) (pss_one (ps_ret (pe_cmpR (op_eqU hu64) (pv 12) (pe_strT (show (PySem.Str.ofString "locals") = T [108, 111, 99, 97, 108, 115] by decide +kernel)) (by first | exact nomark _ | rfl)))) pss_nil)
      (Evl.pss_cut (ps_if (pt_cmpR (op_eqU hu64) (pe_op op_mod (pe_op op_fdivW (pv 1) pe_int) pe_int) pe_int (by first | exact nomark _ | rfl)) (pss_one (ps_ret (pe_and (pe_cmpR (op_eqU hu64) (pe_fld (pv 12) rfl) pe_int (by first | exact nomark _ | rfl)) (pe_one (pe_cmpR (op_eqU hu64) (pe_fld (pv 12) rfl) (pe_lst (pa_cons (pe_tup (pa_cons (pe_strT (show (PySem.Str.ofString "block") = T [98, 108, 111, 99, 107] by decide +kernel)) (pa_cons (pv 3) (pa_cons (pv 2) (pa_cons pe_int (pa_cons pe_int pa_nil)))))) pa_nil)) (by first | exact nomark _ | rfl)))))) pss_nil)
      (pss_one (ps_ret (pe_and (pe_cmpR (op_eqU hu64) (pe_fld (pv 12) rfl) (pv 2) (by first | exact nomark _ | rfl)) (pe_and (pe_cmpR (op_eqU hu64) (pe_fld (pv 12) rfl) (pv 3) (by first | exact nomark _ | rfl)) (pe_one (pe_cmpR (op_eqU hu64) (pe_fld (pv 12) rfl) (pe_lst (pa_cons (pe_tup (pa_cons (pe_strT (show (PySem.Str.ofString "self") = T [115, 101, 108, 102] by decide +kernel)) (pa_cons pe_int pa_nil))) (pa_cons (pe_tup (pa_cons (pe_strT (show (PySem.Str.ofString "return") = T [114, 101, 116, 117, 114, 110] by decide +kernel)) (pa_cons pe_int pa_nil))) pa_nil))) (by first | exact nomark _ | rfl))))))))))))))))))))), ?_⟩
  refine z_start (σ := [some _, none, none, none, none, none, none, none, none, none, none, none, none]) rfl ?_
  one_sign
  refine ⟨a, ns, 0, rfl, hs, ?_⟩
  generalize cellAt ns 0 = c
  have c1 := Int.emod_nonneg c (by decide : (11 : Int) ≠ 0)
  have c2 := Int.emod_lt_of_pos c (by decide : (0 : Int) < 11)
  obtain ⟨m, hm⟩ : ∃ m : Nat, 250 + c % 11 = (m : Int) := ⟨(250 + c % 11).toNat, by omega⟩
  one_sign
  rw [hm]
  refine z_rng1 m rfl (by omega) ?_
  refine z_lcR (fun i xs H' => ∃ A : List Addr, xs = A.map V.ref ∧ PrAt H' A (prs i)) (fun R H' _ _ => ⟨[], rfl, rfl, fun i a z n h _ => by cases h⟩) (fun R i xs H' hR hi hl hp hx f => ?_) (fun R xs H' hR hp hl hx f => ?_)
  · obtain ⟨A, rfl, hA⟩ := hp
    leaf_len
    one_sign
    rw [Int.zero_add]
    have hb : ((i : Int)).natAbs.log2 < 1920 := by
      have : i < 2 ^ 9 := by omega
      rcases Nat.eq_zero_or_pos i with e | e
      · rw [e]; decide
      · exact Nat.lt_trans ((Nat.log2_lt (n := i) (k := 9) (by omega)).mpr this) (by decide)
    refine ⟨hb, ⟨?_, ?_⟩⟩
    · have := int_text_len_1921 hb
      have h1 : (T [118]).length = 1 := rfl
      rw [h1, sizeLine_eq]
      omega
    one_sign
    refine z_newL (by show 2 ≤ sizeLine; decide) fun q H2 hq f2 q2 => ?_
    refine z_lcY hR (f2.g0 hx) (f.trans f2) hl (by rw [sizeLine_eq]; omega) fun H3 f3 _ _ => ⟨A ++ [q], by rw [List.map_append]; rfl, ?_⟩
    rw [prs_succ]
    refine PrAt.snoc ((hA.keep f2).keepF f3 (by intro b hb; rw [List.mem_singleton.mp hb]; exact ⟨_, f2.g0 hx⟩)) (f3.g q2 (nin (ne_of q2 (f2.g0 hx) (by intro z; cases z))))
  · obtain ⟨A, rfl, hA⟩ := hp
    one_sign
    have fT := f
    refine Evl.q_cut (M := fun σ H2 => ∃ (A2 : List Addr) (ps : List (Str × Int)) (v6 : V) (v7 : Option V), σ = [some (.ref a), some (.int c), some (.int m), some (.int (c / 11 % 3)), some (.ref R), none, some v6, v7, none, none, none, none, none] ∧
      H2 R = some (.lst (A2.map V.ref)) ∧ PrAt H2 A2 ps ∧ ps.length = m ∧ PrOk ps ∧
      ((v6 = .non ∧ (nms ps).Nodup) ∨ ∃ (j : Nat) (z : Str), v6 = .int j ∧ ps[j]? = some (z, 3 * (j : Int)) ∧ (nms (ps.take j)).Nodup ∧ z ∈ nms (ps.take j) ∧ PyData.canLay0 (.str z) = true ∧ j < 260)) ?_ ?_
    · one_sign
      refine iteD (fun h => ?_) (fun h => ?_)
      · one_sign
        have g1 := Int.emod_nonneg (c / 99) (b := (m : Int) - 1) (by omega)
        have g2 := Int.emod_lt_of_pos (c / 99) (b := (m : Int) - 1) (by omega)
        obtain ⟨t, ht⟩ : ∃ t : Nat, 1 + c / 99 % ((m : Int) - 1) = (t : Int) := ⟨(1 + c / 99 % ((m : Int) - 1)).toNat, by omega⟩
        rw [ht]
        have g3 := Int.emod_nonneg (c / 30000) (b := (t : Int)) (by omega)
        have g4 := Int.emod_lt_of_pos (c / 30000) (b := (t : Int)) (by omega)
        obtain ⟨u, hu⟩ : ∃ u : Nat, c / 30000 % (t : Int) = (u : Int) := ⟨(c / 30000 % (t : Int)).toNat, by omega⟩
        have hAl : A.length = m := by rw [hA.1, prs_len]
        obtain ⟨b, hb⟩ : ∃ b, A[u]? = some b := ⟨_, List.getElem?_eq_getElem (by omega)⟩
        have hbb := hA.2 u b _ _ hb (prs_at (by omega))
        refine ⟨_, _, rfl, rfl, (by omega : (0 : Int) < (t : Int)), ?_⟩
        show rIxU _ (V.ref R) (V.int (c / 30000 % (t : Int))) H' _
        rw [hu]
        refine z_ixL hx (atI_nat (ref_at hb)) ?_
        one_sign
        refine z_ixT hbb (atI_nat (j := 0) rfl) ?_
        one_sign
        refine z_newL (by show 2 ≤ sizeLine; decide) fun q H3 hq f3 q3 => ?_
        have x3 := f3.g0 hx
        one_sign
        refine z_setL x3 (ixN_nat (i := t) (by rw [List.length_map]; omega)) fun H4 f4 x4 n4 => ?_
        have m4 := prs_take (n := m) (i := t) (by omega)
        have et : ((prs m).set t (vName u, 3 * (t : Int))).take t = prs t := by rw [List.take_set_of_le (Nat.le_refl _), m4]
        refine ⟨A.set t q, (prs m).set t (vName u, 3 * (t : Int)), .int t, _, rfl, by rw [x4, List.map_set], ?_, by rw [List.length_set, prs_len], ?_, Or.inr ⟨t, vName u, rfl, ?_, ?_, ?_, (vName_ok u (List.mem_range.mpr (by omega))).2, by omega⟩⟩
        · exact (PrAt.set (hA.keep f3) t q3).keepF f4 (by intro b hb; rw [List.mem_singleton.mp hb]; exact ⟨_, x3⟩)
        · refine ⟨by rw [List.length_set, prs_len]; omega, fun p hp => ?_⟩
          rcases List.mem_or_eq_of_mem_set hp with h | h
          · exact (prs_ok (by omega)).2 p h
          · rw [h]; exact ⟨(vName_ok u (List.mem_range.mpr (by omega))).1, log3 (by omega)⟩
        · rw [List.getElem?_set_self (by rw [prs_len]; omega)]
        · rw [et]; exact prs_nd (by omega)
        · rw [et, nms_prs]; exact List.mem_map_of_mem (List.mem_range.mpr (by omega))
      · one_sign
        exact ⟨A, prs m, .non, _, rfl, hx, hA, prs_len m, prs_ok (by omega), Or.inl ⟨rfl, prs_nd (by omega)⟩⟩
    · intro σ H2 hM
      obtain ⟨A2, ps, v6, v7, rfl, r2, hA2, hl2, ok2, h6⟩ := hM
      have hc2 : (A2.map V.ref).length = m := by rw [List.length_map, hA2.1, hl2]
      one_sign
      refine z_tupL r2 fun na H3 hn3 f3 n3 => ?_
      obtain ⟨pn, hpn, hp3⟩ : ∃ pn : Nat, c / 11 % 3 = (pn : Int) ∧ pn < 3 := ⟨(c / 11 % 3).toNat, by omega, by omega⟩
      rw [hpn]
      one_sign
      refine z_newL (by show 3 ≤ sizeLine; decide) fun q H4 hq4 f4 q4 => ?_
      one_sign
      obtain ⟨sel, hsel⟩ : ∃ sel : Str, [V.str (T [115, 105, 122, 101]), .str (T [97, 116, 58]), .str (T [97, 116, 58, 112, 117, 116, 58])][pn]? = some (.str sel) := by
        match pn, hp3 with
        | 0, _ => exact ⟨_, rfl⟩
        | 1, _ => exact ⟨_, rfl⟩
        | 2, _ => exact ⟨_, rfl⟩
      refine z_ixL q4 (atI_nat hsel) ?_
      one_sign
      have n4 := f4.g0 n3
      have hpl : pn < (A2.map V.ref).length := by omega
      refine z_slLo n4 hpl fun pa H5 f5 p5 => ?_
      one_sign
      refine z_slHi (f5.g0 n4) hpl fun ta H6 f6 t6 => ?_
      have p6 := f6.g0 p5
      one_sign
      refine z_newL (by show 0 ≤ sizeLine; decide) fun sa H7 hs7 f7 s7 => ?_
      one_sign
      refine z_newL (by show 5 ≤ sizeLine; decide) fun t0 H8 ht8 f8 t8 => ?_
      one_sign
      rw [← List.map_take] at p6
      rw [← List.map_drop] at t6
      have F8 : Fr [] H2 H8 := ((f3.trans f4).trans (f5.trans f6)).trans (f7.trans f8)
      have n8 := f8.g0 (f7.g0 (f6.g0 (f5.g0 n4)))
      have hP8 : PrAt H8 (A2.take pn ++ A2.drop pn) ps := by rw [List.take_append_drop]; exact hA2.keep F8
      have lA : (A2.take pn).length = pn := by rw [List.length_take]; rw [List.length_map] at hpl; omega
      refine Evl.q_cut (M := fun σ H9 => ∃ (t1 : Addr) (v11 : Option V) (blk : Bool), σ = [some (.ref a), some (.int c), some (.int m), some (.int pn), some (.ref R), none, some v6, v7, some (.ref na), some (.str sel), some (.ref t1), v11, none] ∧ Tree H9 blk t1 pn ps ∧ Fr [] H2 H9 ∧ (blk = true ↔ c / 7 % 2 = 1)) ?_ ?_
      · one_sign
        refine iteD (fun h => ?_) (fun h => ?_)
        · one_sign
          refine z_slLo (f8.g0 (f7.g0 (f6.g0 (f5.g0 n4)))) hpl fun pa2 H9 f9 p9 => ?_
          one_sign
          have n8 := f8.g0 (f7.g0 (f6.g0 (f5.g0 n4)))
          refine z_slHi (f9.g0 n8) hpl fun ta2 Ha fa ta9 => ?_
          rw [← List.map_take] at p9
          rw [← List.map_drop] at ta9
          one_sign
          refine z_newL (by show 0 ≤ sizeLine; decide) fun sa2 Hb hsb fb sb => ?_
          one_sign
          refine z_newL (by show 5 ≤ sizeLine; decide) fun bk Hc hbk fc bkc => ?_
          one_sign
          refine z_newL (by show 0 ≤ sizeLine; decide) fun e1 Hd he1 fd e1d => ?_
          one_sign
          refine z_newL (by show 0 ≤ sizeLine; decide) fun e2 He he2 fe e2e => ?_
          one_sign
          refine z_newL (by show 3 ≤ sizeLine; decide) fun rt Hf hrt ff rtf => ?_
          one_sign
          refine z_newL (by show 1 ≤ sizeLine; decide) fun ss Hg hss fg ssg => ?_
          one_sign
          refine z_newL (by show 5 ≤ sizeLine; decide) fun t1 Hi ht1 fi ti => ?_
          one_sign
          have gf : ∀ b o, Hf b = some o → Hi b = some o := fun b o e => fi.g0 (fg.g0 e)
          have gc : ∀ b o, Hc b = some o → Hi b = some o := fun b o e => gf _ _ (ff.g0 (fe.g0 (fd.g0 e)))
          have gb : ∀ b o, Hb b = some o → Hi b = some o := fun b o e => gc _ _ (fc.g0 e)
          have ga : ∀ b o, Ha b = some o → Hi b = some o := fun b o e => gb _ _ (fb.g0 e)
          have FI : Fr [] H8 Hi := (((f9.trans fa).trans (fb.trans fc)).trans ((fd.trans fe).trans (ff.trans fg))).trans fi
          exact ⟨t1, _, true, rfl, ⟨_, _, e1, e2, ss, pa2, ta2, sa2, _, _, ti, gb _ _ sb, ga _ _ (fa.g0 p9), ga _ _ ta9, hP8.keep FI, lA, Or.inr ⟨rfl, rt, bk, _, _, gf _ _ (ff.g0 (fe.g0 e1d)), gf _ _ (ff.g0 e2e), fi.g0 ssg, gf _ _ rtf, gc _ _ bkc⟩⟩, F8.trans FI, ⟨fun _ => h, fun _ => rfl⟩⟩
        · one_sign
          exact ⟨t0, _, false, rfl, ⟨_, _, _, _, _, pa, ta, sa, _, _, t8, f8.g0 s7, f8.g0 (f7.g0 p6), f8.g0 (f7.g0 t6), hP8, lA, Or.inl ⟨rfl, rfl, rfl, rfl⟩⟩, F8, ⟨fun z => (by cases z), fun z => absurd z h⟩⟩
      · intro σ H9 hM
        obtain ⟨t1, v11, blk, rfl, hT, F9, hb⟩ := hM
        obtain ⟨z0, sel2, e1, e2, ss, pa, ta, sa, A3, B3, h1, h2, h3, h4, h5, hl5, h7⟩ := hT
        have r9 := F9.g0 r2
        have hP9 := hA2.keep F9
        one_sign
        refine ⟨t1, z0, sel2, e1, e2, ss, pa, ta, sa, A3, B3, ps, rfl, h1, h2, h3, h4, h5, ok2, fun j z n q1 q2 q3 Ha tt fa ttb => ?_, fun q1 q2 Ha fa => ?_, ?_⟩
        · rcases h6 with ⟨rfl, hnd⟩ | ⟨j2, z2, rfl, u1, u2, u3, u4, u5⟩
          · exact absurd q3 (first_rep (i := ps.length) (by rw [List.take_length]; exact hnd) (List.getElem?_eq_some_iff.mp q1).1 q1)
          · have ej : j = j2 := by
              rcases Nat.lt_trichotomy j j2 with e | e | e
              · exact absurd q3 (first_rep u2 e q1)
              · exact e
              · exact absurd u3 (first_rep q2 e u1)
            subst ej
            rw [q1] at u1
            cases u1
            one_sign
            refine Evl.q_cut (M := fun _ _ => False) ?_ (fun _ _ z => z.elim)
            one_sign
            obtain ⟨aj, haj⟩ : ∃ aj, A2[j]? = some aj := ⟨_, List.getElem?_eq_getElem (by have := (List.getElem?_eq_some_iff.mp q1).1; rw [hA2.1]; exact this)⟩
            have aja := (hP9.keep fa).2 _ _ _ _ haj q1
            one_sign
            refine z_ixL (fa.g0 r9) (atI_nat (ref_at haj)) ?_
            one_sign
            refine z_ixT aja (atI_nat (j := 0) rfl) ?_
            one_sign
            refine z_newL (by show 3 ≤ sizeLine; decide) fun q Hb hqb fb qb => ?_
            one_sign
            refine ⟨_, _, dp_ssi (fb.g0 ttb), dp_ssi qb, sh_ssi okTw u4, sh_ssi okTw u4, ?_⟩
            exact k_of (Q := Q) eq_ssi (k _)
        · rcases h6 with ⟨rfl, hnd⟩ | ⟨j2, z2, rfl, u1, u2, u3, u4, u5⟩
          · one_sign
            refine Evl.q_cut (M := fun σ H' => σ = [some (.ref a), some (.int c), some (.int m), some (.int pn), some (.ref R), none, some .non, v7, some (.ref na), some (.str sel), some (.ref t1), v11, some (.str (T [108, 111, 99, 97, 108, 115]))] ∧ Ha = H') ?_ ?_
            · one_sign
              exact ⟨rfl, rfl⟩
            rintro _ _ ⟨rfl, rfl⟩
            refine Evl.q_cut (M := fun _ _ => False) ?_ (fun _ _ z => z.elim)
            one_sign
            refine iteD (fun _ => ?_) fun z => by omega
            one_sign
            exact k _
          · exact absurd u3 (first_rep (i := ps.length) (by rw [List.take_length]; exact q1) (List.getElem?_eq_some_iff.mp u1).1 u1)
        · rcases h7 with ⟨rfl, rfl, rfl, rfl⟩ | ⟨rfl, st, tr, ln, l2, g1, g2, g3, g4, g5⟩
          · refine Or.inl ⟨rfl, rfl, rfl, fun q1 q2 Ha dr dx A' c2 l2 fa w1 w2 w3 => ?_⟩
            unfold dF17 at w1
            rcases h6 with ⟨rfl, hnd⟩ | ⟨j2, z2, rfl, u1, u2, u3, u4, u5⟩
            · one_sign
              refine Evl.q_cut (M := fun σ H' => σ = [some (.ref a), some (.int c), some (.int m), some (.int pn), some (.ref R), none, some .non, v7, some (.ref na), some (.str sel), some (.ref t1), v11, some (.ref dr)] ∧ Ha = H') ?_ ?_
              · one_sign
                exact ⟨rfl, rfl⟩
              rintro _ _ ⟨rfl, rfl⟩
              refine Evl.q_cut (M := fun σ H' => σ = [some (.ref a), some (.int c), some (.int m), some (.int pn), some (.ref R), none, some .non, v7, some (.ref na), some (.str sel), some (.ref t1), v11, some (.ref dr)] ∧ Ha = H') ?_ ?_
              · one_sign
                refine iteD (fun z => by omega) fun _ => ?_
                one_sign
                exact ⟨rfl, rfl⟩
              rintro _ _ ⟨rfl, rfl⟩
              refine Evl.q_cut (M := fun σ H' => σ = [some (.ref a), some (.int c), some (.int m), some (.int pn), some (.ref R), none, some .non, v7, some (.ref na), some (.str sel), some (.ref t1), v11, some (.ref dr)] ∧ Ha = H') ?_ ?_
              · one_sign
                refine iteD (fun z => (by have := hb.mpr z; cases this)) fun _ => ?_
                one_sign
                exact ⟨rfl, rfl⟩
              rintro _ _ ⟨rfl, rfl⟩
              one_sign
              refine iteD (fun _ => ?_) fun z => absurd (by omega) z
              one_sign
              refine iteD (fun _ => ?_) fun z => absurd (by omega) z
              obtain ⟨x1, x2, rfl⟩ : ∃ x1 x2, A' = [x1, x2] := by
                have := w3.1
                match A', this with
                | [x1, x2], _ => exact ⟨_, _, rfl⟩
              have y1 := w3.2 0 x1 _ _ rfl rfl
              have y2 := w3.2 1 x2 _ _ rfl rfl
              one_sign
              refine z_newL (by show 2 ≤ sizeLine; decide) fun q1 Hb hq1 fb qb => ?_
              one_sign
              refine z_newL (by show 2 ≤ sizeLine; decide) fun q2 Hc hq2 fc qc => ?_
              one_sign
              refine z_newL (by show 2 ≤ sizeLine; decide) fun q3 Hd hq3 fd qd => ?_
              one_sign
              have gd : ∀ b o, Ha b = some o → Hd b = some o := fun b o e => fd.g0 (fc.g0 (fb.g0 e))
              refine ⟨_, _, Dp.lst (SqL.of (gd _ _ w2)) (.cons (dp_si (gd _ _ y1)) (.cons (dp_si (gd _ _ y2)) .nil)), Dp.lst (SqL.of qd) (.cons (dp_si (fd.g0 (fc.g0 qb))) (.cons (dp_si (fd.g0 qc)) .nil)), sh_sisi okSLF okRET, sh_sisi okSLF okRET, ?_⟩
              exact k_of (Q := Q) eq_sisi (k _)
            · exact absurd u3 (first_rep (i := ps.length) (by rw [List.take_length]; exact q1) (List.getElem?_eq_some_iff.mp u1).1 u1)
          · refine Or.inr ⟨st, tr, ln, l2, g1, g2, g3, g4, g5, fun q1 q2 Ha dr dx c2 l2 t2 fa w1 w2 w3 => ?_⟩
            unfold dF17 at w1
            rcases h6 with ⟨rfl, hnd⟩ | ⟨j2, z2, rfl, u1, u2, u3, u4, u5⟩
            · one_sign
              refine Evl.q_cut (M := fun σ H' => σ = [some (.ref a), some (.int c), some (.int m), some (.int pn), some (.ref R), none, some .non, v7, some (.ref na), some (.str sel), some (.ref t1), v11, some (.ref dr)] ∧ Ha = H') ?_ ?_
              · one_sign
                exact ⟨rfl, rfl⟩
              rintro _ _ ⟨rfl, rfl⟩
              refine Evl.q_cut (M := fun σ H' => σ = [some (.ref a), some (.int c), some (.int m), some (.int pn), some (.ref R), none, some .non, v7, some (.ref na), some (.str sel), some (.ref t1), v11, some (.ref dr)] ∧ Ha = H') ?_ ?_
              · one_sign
                refine iteD (fun z => by omega) fun _ => ?_
                one_sign
                exact ⟨rfl, rfl⟩
              rintro _ _ ⟨rfl, rfl⟩
              refine Evl.q_cut (M := fun _ _ => False) ?_ (fun _ _ z => z.elim)
              one_sign
              refine iteD (fun _ => ?_) (fun z => absurd (hb.mp rfl) z)
              one_sign
              refine iteD (fun _ => ?_) fun z => absurd rfl z
              one_sign
              refine z_newL (by show 5 ≤ sizeLine; decide) fun q1 Hb hq1 fb qb => ?_
              one_sign
              refine z_newL (by show 1 ≤ sizeLine; decide) fun q2 Hc hq2 fc qc => ?_
              one_sign
              have gc : ∀ b o, Ha b = some o → Hc b = some o := fun b o e => fc.g0 (fb.g0 e)
              rw [hl5, hl2] at w3
              refine ⟨_, _, Dp.lst (SqL.of (gc _ _ w2)) (.cons (dp_5 (gc _ _ w3)) .nil), Dp.lst (SqL.of qc) (.cons (dp_5 (fc.g0 qb)) .nil), sh_5 okBLK, sh_5 okBLK, ?_⟩
              exact k_of (Q := Q) eq_5 (k _)
            · exact absurd u3 (first_rep (i := ps.length) (by rw [List.take_length]; exact q1) (List.getElem?_eq_some_iff.mp u1).1 u1)
end

end LX
namespace LX
open PySem PySem.Spec PyProof.Rows L2 NdefX

theorem all_mk {l : PySem.W.OpenLaw} {w : World} {K : PySem.W.Frag} {mg : Str → Option Value} {fa : Addr} (W : Wd l.prog K mg) (hfa : mg "law" = some (.ref fa)) :
    ∃ fd : FuncData, (∀ (s : Shared) (v : Value), BindsTo s fd ⟨[v], []⟩ [("_law_script", v)]) ∧ ∀ base : Heap, K.In base → base.Ns mainGlobals mg → FnOk l.prog w K mg base CX0 9 fa fd ["_law_script"] (sp_law K) := by
  have e := hfa.symm.trans W.g_law
  cases e
  obtain ⟨oc, od, kV, doc, pm, an, cdv, ct, osl, e, _, _⟩ := W.F_law.ex
  exact ⟨W.fd_law, fun s v => by rw [e]; exact .of_eq rfl, fun base _ _ => ok_law W⟩
theorem walk {l : PySem.W.OpenLaw} {q : Program} {loose : List Str} {XP : (Str → Option Value) → Heap → Prop} {YP : World → Heap → Prop} {d : DefRec} {K : Params → PySem.W.Frag} (hn : l.most = some 63) (hdf : d.params.defaults = [])
    (hY : ∀ (w : World) (h : Heap), YP w h → (K w.params).In h)
    (F : ∀ (w : World) (mg : Str → Option Value) (fa : Addr) (h : Heap), (K w.params).In h → h.Ns mainGlobals mg → mg d.name = some (.ref fa) →
      ∃ fd : FuncData, (∀ (s : Shared) (u : Value), BindsTo s fd ⟨[u], []⟩ [("_law_script", u)]) ∧ ∀ base : Heap, (K w.params).In base → base.Ns mainGlobals mg → FnOk l.prog w (K w.params) mg base CX0 9 fa fd ["_law_script"] (sp_law (K w.params))) :
    PySem.W.WalkO q loose XP YP l.row.toRowW d [] (fun f vs => PySem.call f vs) :=
  L2.walk_of (n := 63) (k := 9) (x := "_law_script") (CX := fun _ => CX0) (sp := fun w => sp_law (K w.params)) hn (by decide) hdf ⟨rfl, by decide, by decide⟩ hY F (fun _ _ a ns hl _ hS => ⟨a, ns, rfl, hS, hl, fun _ => rfl⟩) fun _ _ _ _ _ z => z

end LX

open PySem PySem.W PyProof.Rows
set_option maxRecDepth 100000 in
set_option maxHeartbeats 0 in
theorem PySem.Challenge.cw_saggar_k17_many_locals_holds : PySem.Challenge.rw_saggar_k17_many_locals.Holds := by
  w_on; o_law; k_head; (case hw => w_witness2)
  k_fill
  refine LX.walk (l := PySem.Challenge.rw_saggar_k17_many_locals) rfl rfl (fun w h Y => PySem.W.kIn_of Y) ?F
  case F =>
    intro w mg fa h KX G hmg
    refine' LX.all_mk (l := PySem.Challenge.rw_saggar_k17_many_locals) (LX.mkW KX G ?z_third ?z_super ?z_top ?z_sg ?z_st ?z_int ?z_len ?z_list ?z_max ?z_range ?z_str ?z_tuple ?c_PUSHING ?tl_PUSHING ?c_SENDING ?tl_SENDING ?c_ENDING ?tl_ENDING ?c_MOST_LOCALS ?c_RESERVED ?tl_RESERVED ?cl_Oversized ?cl_Twice ?cl_Draft ?pg_Draft ?hd_Draft ?po_Draft ?sa_Draft ?mk_Draft ?kp_Draft ?na_Draft_selector ?na_Draft_argc ?na_Draft_locals ?na_Draft_stack ?na_Draft_code ?na_Draft_literals ?cl_Coder ?pg_Coder ?hd_Coder ?po_Coder ?sa_Coder ?mk_Coder ?kp_Coder ?na_Coder_fields ?na_Coder_globals_known ?na_Coder_code ?na_Coder_literals ?na_Coder_scopes ?a_Oversized___init__ ?l_Oversized___init__ ?c_Oversized___init__ ?k_Oversized___init__ ?x1_Oversized___init__ ?x2_Oversized___init__ ?x3_Oversized___init__ ?x4_Oversized___init__ ?xl_Oversized ?xr_Oversized ?xs_Oversized ?xe_Oversized ?xt_Oversized ?xk_Oversized ?xm_Oversized ?xi_Oversized ?xb_Oversized ?eg_Oversized ?ek_Oversized ?ed_Oversized ?ea_Oversized ?em_Oversized ?xn_Oversized_limit ?a_Twice___init__ ?l_Twice___init__ ?c_Twice___init__ ?k_Twice___init__ ?x1_Twice___init__ ?x2_Twice___init__ ?x3_Twice___init__ ?x4_Twice___init__ ?xl_Twice ?xr_Twice ?xs_Twice ?xe_Twice ?xt_Twice ?xk_Twice ?xm_Twice ?xi_Twice ?xb_Twice ?eg_Twice ?ek_Twice ?ed_Twice ?ea_Twice ?em_Twice ?xn_Twice_name ?xn_Twice_at ?a_change_of ?l_change_of ?c_change_of ?k_change_of ?a_places_behind ?l_places_behind ?c_places_behind ?k_places_behind ?a_Draft___init__ ?l_Draft___init__ ?c_Draft___init__ ?k_Draft___init__ ?fn_Draft___init__ ?a_declared ?l_declared ?c_declared ?k_declared ?a_Coder___init__ ?l_Coder___init__ ?c_Coder___init__ ?k_Coder___init__ ?fn_Coder___init__ ?a_Coder_emit ?l_Coder_emit ?dl_Coder_emit ?c_Coder_emit ?k_Coder_emit ?fn_Coder_emit ?a_Coder_here ?l_Coder_here ?c_Coder_here ?k_Coder_here ?fn_Coder_here ?a_Coder_aim ?l_Coder_aim ?c_Coder_aim ?k_Coder_aim ?fn_Coder_aim ?a_Coder_literal ?l_Coder_literal ?c_Coder_literal ?k_Coder_literal ?fn_Coder_literal ?a_Coder_name ?l_Coder_name ?c_Coder_name ?k_Coder_name ?fn_Coder_name ?a_Coder_assign ?l_Coder_assign ?c_Coder_assign ?k_Coder_assign ?fn_Coder_assign ?a_Coder_sequence ?l_Coder_sequence ?c_Coder_sequence ?k_Coder_sequence ?fn_Coder_sequence ?a_Coder_message ?l_Coder_message ?c_Coder_message ?k_Coder_message ?fn_Coder_message ?a_Coder_send ?l_Coder_send ?c_Coder_send ?k_Coder_send ?fn_Coder_send ?a_Coder_block ?l_Coder_block ?c_Coder_block ?k_Coder_block ?fn_Coder_block ?a_Coder_expression ?l_Coder_expression ?c_Coder_expression ?k_Coder_expression ?fn_Coder_expression ?a_greatest_height ?l_greatest_height ?c_greatest_height ?k_greatest_height ?a_with_stacks ?l_with_stacks ?c_with_stacks ?k_with_stacks ?a_compile_method ?l_compile_method ?c_compile_method ?k_compile_method ?a__law_cell ?l__law_cell ?c__law_cell ?k__law_cell ?a__law_told ?l__law_told ?c__law_told ?k__law_told ?a_law ?l_law ?c_law ?k_law ?qem_TT ?qem_OT ?qem_OO) hmg
    (case z_third => first | k_is | ks_is | rfl | decide +kernel)
    (case z_super => first | k_is | ks_is | rfl | decide +kernel)
    (case z_top => first | k_is | ks_is | rfl | decide +kernel)
    (case z_sg => first | k_is | ks_is | rfl | decide +kernel)
    (case z_st => first | k_is | ks_is | rfl | decide +kernel)
    (case z_int => first | k_is | ks_is | rfl | decide +kernel)
    (case z_len => first | k_is | ks_is | rfl | decide +kernel)
    (case z_list => first | k_is | ks_is | rfl | decide +kernel)
    (case z_max => first | k_is | ks_is | rfl | decide +kernel)
    (case z_range => first | k_is | ks_is | rfl | decide +kernel)
    (case z_str => first | k_is | ks_is | rfl | decide +kernel)
    (case z_tuple => first | k_is | ks_is | rfl | decide +kernel)
    (case c_PUSHING => first | k_is | ks_is | rfl | decide +kernel)
    (case tl_PUSHING => first | k_is | ks_is | rfl | decide +kernel)
    (case c_SENDING => first | k_is | ks_is | rfl | decide +kernel)
    (case tl_SENDING => first | k_is | ks_is | rfl | decide +kernel)
    (case c_ENDING => first | k_is | ks_is | rfl | decide +kernel)
    (case tl_ENDING => first | k_is | ks_is | rfl | decide +kernel)
    (case c_MOST_LOCALS => first | k_is | ks_is | rfl | decide +kernel)
    (case c_RESERVED => first | k_is | ks_is | rfl | decide +kernel)
    (case tl_RESERVED => first | k_is | ks_is | rfl | decide +kernel)
    (case cl_Oversized => first | k_is | ks_is | rfl | decide +kernel)
    (case cl_Twice => first | k_is | ks_is | rfl | decide +kernel)
    (case cl_Draft => first | k_is | ks_is | rfl | decide +kernel)
    (case pg_Draft => first | k_is | ks_is | rfl | decide +kernel)
    (case hd_Draft => first | k_is | ks_is | rfl | decide +kernel)
    (case po_Draft => first | k_is | ks_is | rfl | decide +kernel)
    (case sa_Draft => first | k_is | ks_is | rfl | decide +kernel)
    (case mk_Draft => first | k_is | ks_is | rfl | decide +kernel)
    (case kp_Draft => first | k_is | ks_is | rfl | decide +kernel)
    (case na_Draft_selector => first | k_is | ks_is | rfl | decide +kernel)
    (case na_Draft_argc => first | k_is | ks_is | rfl | decide +kernel)
    (case na_Draft_locals => first | k_is | ks_is | rfl | decide +kernel)
    (case na_Draft_stack => first | k_is | ks_is | rfl | decide +kernel)
    (case na_Draft_code => first | k_is | ks_is | rfl | decide +kernel)
    (case na_Draft_literals => first | k_is | ks_is | rfl | decide +kernel)
    (case cl_Coder => first | k_is | ks_is | rfl | decide +kernel)
    (case pg_Coder => first | k_is | ks_is | rfl | decide +kernel)
    (case hd_Coder => first | k_is | ks_is | rfl | decide +kernel)
    (case po_Coder => first | k_is | ks_is | rfl | decide +kernel)
    (case sa_Coder => first | k_is | ks_is | rfl | decide +kernel)
    (case mk_Coder => first | k_is | ks_is | rfl | decide +kernel)
    (case kp_Coder => first | k_is | ks_is | rfl | decide +kernel)
    (case na_Coder_fields => first | k_is | ks_is | rfl | decide +kernel)
    (case na_Coder_globals_known => first | k_is | ks_is | rfl | decide +kernel)
    (case na_Coder_code => first | k_is | ks_is | rfl | decide +kernel)
    (case na_Coder_literals => first | k_is | ks_is | rfl | decide +kernel)
    (case na_Coder_scopes => first | k_is | ks_is | rfl | decide +kernel)
    (case a_Oversized___init__ => first | k_is | ks_is | rfl | decide +kernel)
    (case l_Oversized___init__ => first | k_is | ks_is | rfl | decide +kernel)
    (case c_Oversized___init__ => first | k_is | ks_is | rfl | decide +kernel)
    (case k_Oversized___init__ => first | k_is | ks_is | rfl | decide +kernel)
    (case x1_Oversized___init__ => first | k_is | ks_is | rfl | decide +kernel)
    (case x2_Oversized___init__ => first | k_is | ks_is | rfl | decide +kernel)
    (case x3_Oversized___init__ => first | k_is | ks_is | rfl | decide +kernel)
    (case x4_Oversized___init__ => first | k_is | ks_is | rfl | decide +kernel)
    (case xl_Oversized => first | k_is | ks_is | rfl | decide +kernel)
    (case xr_Oversized => first | k_is | ks_is | rfl | decide +kernel)
    (case xs_Oversized => first | k_is | ks_is | rfl | decide +kernel)
    (case xe_Oversized => first | k_is | ks_is | rfl | decide +kernel)
    (case xt_Oversized => first | k_is | ks_is | rfl | decide +kernel)
    (case xk_Oversized => first | k_is | ks_is | rfl | decide +kernel)
    (case xm_Oversized => first | k_is | ks_is | rfl | decide +kernel)
    (case xi_Oversized => first | k_is | ks_is | rfl | decide +kernel)
    (case xb_Oversized => first | k_is | ks_is | rfl | decide +kernel)
    (case eg_Oversized => first | k_is | ks_is | rfl | decide +kernel)
    (case ek_Oversized => first | k_is | ks_is | rfl | decide +kernel)
    (case ed_Oversized => first | k_is | ks_is | rfl | decide +kernel)
    (case ea_Oversized => first | k_is | ks_is | rfl | decide +kernel)
    (case em_Oversized => first | k_is | ks_is | rfl | decide +kernel)
    (case xn_Oversized_limit => first | k_is | ks_is | rfl | decide +kernel)
    (case a_Twice___init__ => first | k_is | ks_is | rfl | decide +kernel)
    (case l_Twice___init__ => first | k_is | ks_is | rfl | decide +kernel)
    (case c_Twice___init__ => first | k_is | ks_is | rfl | decide +kernel)
    (case k_Twice___init__ => first | k_is | ks_is | rfl | decide +kernel)
    (case x1_Twice___init__ => first | k_is | ks_is | rfl | decide +kernel)
    (case x2_Twice___init__ => first | k_is | ks_is | rfl | decide +kernel)
    (case x3_Twice___init__ => first | k_is | ks_is | rfl | decide +kernel)
    (case x4_Twice___init__ => first | k_is | ks_is | rfl | decide +kernel)
    (case xl_Twice => first | k_is | ks_is | rfl | decide +kernel)
    (case xr_Twice => first | k_is | ks_is | rfl | decide +kernel)
    (case xs_Twice => first | k_is | ks_is | rfl | decide +kernel)
    (case xe_Twice => first | k_is | ks_is | rfl | decide +kernel)
    (case xt_Twice => first | k_is | ks_is | rfl | decide +kernel)
    (case xk_Twice => first | k_is | ks_is | rfl | decide +kernel)
    (case xm_Twice => first | k_is | ks_is | rfl | decide +kernel)
    (case xi_Twice => first | k_is | ks_is | rfl | decide +kernel)
    (case xb_Twice => first | k_is | ks_is | rfl | decide +kernel)
    (case eg_Twice => first | k_is | ks_is | rfl | decide +kernel)
    (case ek_Twice => first | k_is | ks_is | rfl | decide +kernel)
    (case ed_Twice => first | k_is | ks_is | rfl | decide +kernel)
    (case ea_Twice => first | k_is | ks_is | rfl | decide +kernel)
    (case em_Twice => first | k_is | ks_is | rfl | decide +kernel)
    (case xn_Twice_name => first | k_is | ks_is | rfl | decide +kernel)
    (case xn_Twice_at => first | k_is | ks_is | rfl | decide +kernel)
    (case a_change_of => first | k_is | ks_is | rfl | decide +kernel)
    (case l_change_of => first | k_is | ks_is | rfl | decide +kernel)
    (case c_change_of => first | k_is | ks_is | rfl | decide +kernel)
    (case k_change_of => first | k_is | ks_is | rfl | decide +kernel)
    (case a_places_behind => first | k_is | ks_is | rfl | decide +kernel)
    (case l_places_behind => first | k_is | ks_is | rfl | decide +kernel)
    (case c_places_behind => first | k_is | ks_is | rfl | decide +kernel)
    (case k_places_behind => first | k_is | ks_is | rfl | decide +kernel)
    (case a_Draft___init__ => first | k_is | ks_is | rfl | decide +kernel)
    (case l_Draft___init__ => first | k_is | ks_is | rfl | decide +kernel)
    (case c_Draft___init__ => first | k_is | ks_is | rfl | decide +kernel)
    (case k_Draft___init__ => first | k_is | ks_is | rfl | decide +kernel)
    (case fn_Draft___init__ => first | k_is | ks_is | rfl | decide +kernel)
    (case a_declared => first | k_is | ks_is | rfl | decide +kernel)
    (case l_declared => first | k_is | ks_is | rfl | decide +kernel)
    (case c_declared => first | k_is | ks_is | rfl | decide +kernel)
    (case k_declared => first | k_is | ks_is | rfl | decide +kernel)
    (case a_Coder___init__ => first | k_is | ks_is | rfl | decide +kernel)
    (case l_Coder___init__ => first | k_is | ks_is | rfl | decide +kernel)
    (case c_Coder___init__ => first | k_is | ks_is | rfl | decide +kernel)
    (case k_Coder___init__ => first | k_is | ks_is | rfl | decide +kernel)
    (case fn_Coder___init__ => first | k_is | ks_is | rfl | decide +kernel)
    (case a_Coder_emit => first | k_is | ks_is | rfl | decide +kernel)
    (case l_Coder_emit => first | k_is | ks_is | rfl | decide +kernel)
    (case dl_Coder_emit => first | k_is | ks_is | rfl | decide +kernel)
    (case c_Coder_emit => first | k_is | ks_is | rfl | decide +kernel)
    (case k_Coder_emit => first | k_is | ks_is | rfl | decide +kernel)
    (case fn_Coder_emit => first | k_is | ks_is | rfl | decide +kernel)
    (case a_Coder_here => first | k_is | ks_is | rfl | decide +kernel)
    (case l_Coder_here => first | k_is | ks_is | rfl | decide +kernel)
    (case c_Coder_here => first | k_is | ks_is | rfl | decide +kernel)
    (case k_Coder_here => first | k_is | ks_is | rfl | decide +kernel)
    (case fn_Coder_here => first | k_is | ks_is | rfl | decide +kernel)
    (case a_Coder_aim => first | k_is | ks_is | rfl | decide +kernel)
    (case l_Coder_aim => first | k_is | ks_is | rfl | decide +kernel)
    (case c_Coder_aim => first | k_is | ks_is | rfl | decide +kernel)
    (case k_Coder_aim => first | k_is | ks_is | rfl | decide +kernel)
    (case fn_Coder_aim => first | k_is | ks_is | rfl | decide +kernel)
    (case a_Coder_literal => first | k_is | ks_is | rfl | decide +kernel)
    (case l_Coder_literal => first | k_is | ks_is | rfl | decide +kernel)
    (case c_Coder_literal => first | k_is | ks_is | rfl | decide +kernel)
    (case k_Coder_literal => first | k_is | ks_is | rfl | decide +kernel)
    (case fn_Coder_literal => first | k_is | ks_is | rfl | decide +kernel)
    (case a_Coder_name => first | k_is | ks_is | rfl | decide +kernel)
    (case l_Coder_name => first | k_is | ks_is | rfl | decide +kernel)
    (case c_Coder_name => first | k_is | ks_is | rfl | decide +kernel)
    (case k_Coder_name => first | k_is | ks_is | rfl | decide +kernel)
    (case fn_Coder_name => first | k_is | ks_is | rfl | decide +kernel)
    (case a_Coder_assign => first | k_is | ks_is | rfl | decide +kernel)
    (case l_Coder_assign => first | k_is | ks_is | rfl | decide +kernel)
    (case c_Coder_assign => first | k_is | ks_is | rfl | decide +kernel)
    (case k_Coder_assign => first | k_is | ks_is | rfl | decide +kernel)
    (case fn_Coder_assign => first | k_is | ks_is | rfl | decide +kernel)
    (case a_Coder_sequence => first | k_is | ks_is | rfl | decide +kernel)
    (case l_Coder_sequence => first | k_is | ks_is | rfl | decide +kernel)
    (case c_Coder_sequence => first | k_is | ks_is | rfl | decide +kernel)
    (case k_Coder_sequence => first | k_is | ks_is | rfl | decide +kernel)
    (case fn_Coder_sequence => first | k_is | ks_is | rfl | decide +kernel)
    (case a_Coder_message => first | k_is | ks_is | rfl | decide +kernel)
    (case l_Coder_message => first | k_is | ks_is | rfl | decide +kernel)
    (case c_Coder_message => first | k_is | ks_is | rfl | decide +kernel)
    (case k_Coder_message => first | k_is | ks_is | rfl | decide +kernel)
    (case fn_Coder_message => first | k_is | ks_is | rfl | decide +kernel)
    (case a_Coder_send => first | k_is | ks_is | rfl | decide +kernel)
    (case l_Coder_send => first | k_is | ks_is | rfl | decide +kernel)
    (case c_Coder_send => first | k_is | ks_is | rfl | decide +kernel)
    (case k_Coder_send => first | k_is | ks_is | rfl | decide +kernel)
    (case fn_Coder_send => first | k_is | ks_is | rfl | decide +kernel)
    (case a_Coder_block => first | k_is | ks_is | rfl | decide +kernel)
    (case l_Coder_block => first | k_is | ks_is | rfl | decide +kernel)
    (case c_Coder_block => first | k_is | ks_is | rfl | decide +kernel)
    (case k_Coder_block => first | k_is | ks_is | rfl | decide +kernel)
    (case fn_Coder_block => first | k_is | ks_is | rfl | decide +kernel)
    (case a_Coder_expression => first | k_is | ks_is | rfl | decide +kernel)
    (case l_Coder_expression => first | k_is | ks_is | rfl | decide +kernel)
    (case c_Coder_expression => first | k_is | ks_is | rfl | decide +kernel)
    (case k_Coder_expression => first | k_is | ks_is | rfl | decide +kernel)
    (case fn_Coder_expression => first | k_is | ks_is | rfl | decide +kernel)
    (case a_greatest_height => first | k_is | ks_is | rfl | decide +kernel)
    (case l_greatest_height => first | k_is | ks_is | rfl | decide +kernel)
    (case c_greatest_height => first | k_is | ks_is | rfl | decide +kernel)
    (case k_greatest_height => first | k_is | ks_is | rfl | decide +kernel)
    (case a_with_stacks => first | k_is | ks_is | rfl | decide +kernel)
    (case l_with_stacks => first | k_is | ks_is | rfl | decide +kernel)
    (case c_with_stacks => first | k_is | ks_is | rfl | decide +kernel)
    (case k_with_stacks => first | k_is | ks_is | rfl | decide +kernel)
    (case a_compile_method => first | k_is | ks_is | rfl | decide +kernel)
    (case l_compile_method => first | k_is | ks_is | rfl | decide +kernel)
    (case c_compile_method => first | k_is | ks_is | rfl | decide +kernel)
    (case k_compile_method => first | k_is | ks_is | rfl | decide +kernel)
    (case a__law_cell => first | k_is | ks_is | rfl | decide +kernel)
    (case l__law_cell => first | k_is | ks_is | rfl | decide +kernel)
    (case c__law_cell => first | k_is | ks_is | rfl | decide +kernel)
    (case k__law_cell => first | k_is | ks_is | rfl | decide +kernel)
    (case a__law_told => first | k_is | ks_is | rfl | decide +kernel)
    (case l__law_told => first | k_is | ks_is | rfl | decide +kernel)
    (case c__law_told => first | k_is | ks_is | rfl | decide +kernel)
    (case k__law_told => first | k_is | ks_is | rfl | decide +kernel)
    (case a_law => first | k_is | ks_is | rfl | decide +kernel)
    (case l_law => first | k_is | ks_is | rfl | decide +kernel)
    (case c_law => first | k_is | ks_is | rfl | decide +kernel)
    (case k_law => first | k_is | ks_is | rfl | decide +kernel)
    (case qem_TT => first | k_is | ks_is | rfl | decide +kernel)
    (case qem_OT => first | k_is | ks_is | rfl | decide +kernel)
    (case qem_OO => first | k_is | ks_is | rfl | decide +kernel)
    all_goals first | exact PySem.Value.none | exact none | exact (0 : PySem.Addr)

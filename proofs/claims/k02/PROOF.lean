import PyProof.Rows.All
import Wide.All
import OpenK.AllK
import Wide.FinOn
import KE.KExcSuper
import HandS.ForMost
import HandS.ForExc
import HandS.ExcInit
import HandS.Nested
import HandS.Flow
import HandS.IsInst
import HandS.Wide
import HandS.StrMore
import HandS.RaiseMore
import HandS.TupAny
import HandS.Style
import HandS.NoneIn
import HandS.Conv
import HandS.Deep
import HandS.Small
import HandS.Evl
import HandS.SortInts
import HandS.More
import HandS.Lambda
import HandS.EndTab
import KE.SortKeyHeap
import KE.SortData
import KE.KSortKey
import HandS.HotCalls
import HandS.ExcCtx
import HandS.ExcField
import HandS.ExcIs
import KE.KExcIs
import HandS.TryMany
import HandS.HeadWalk
import PySem.Challenge.RW_saggar_k02_store_is_a_list
set_option Elab.async false
set_option linter.all false
set_option maxRecDepth 100000
set_option maxHeartbeats 4000000
/-! universal rules: by the values' constructors -/
namespace LX
open PySem PySem.Spec PyProof.Rows L2
section
variable {X : Cx}
/-! ### operators -/
def rAddU (K : PySem.W.Frag) : R2 := fun x y H Q => match x, y with
  | .int i, .int j => Q (.int (i + j)) H
  | .str i, .str j => i.length + j.length ≤ sizeLine ∧ Q (.str (i ++ j)) H
  | .ref a, .ref b => rCat (.ref a) (.ref b) H Q ∨ rCatA K (.ref a) (.ref b) H Q
  | _, _ => False
theorem op_addU : OpR X (binaryOp .Add) (rAddU X.K) := by
  intro pins s σ H x y v u Q I rx ry h
  unfold rAddU at h
  split at h
  · exact op_add pins s σ H _ _ v u Q I rx ry ⟨_, _, rfl, rfl, h⟩
  · exact op_add_str pins s σ H _ _ v u Q I rx ry ⟨_, _, rfl, rfl, h.1, h.2⟩
  · rcases h with h | h
    · exact op_cat pins s σ H _ _ v u Q I rx ry h
    · exact op_catA pins s σ H _ _ v u Q I rx ry h
  · exact h.elim
def rMulU : R2 := fun x y H Q => match x, y with
  | .int i, .int j => CMul i j ∧ Q (.int (i * j)) H
  | .ref a, .int j => rRep (.ref a) (.int j) H Q
  | _, _ => False
theorem op_mulU : OpR X (binaryOp .Mult) rMulU := by
  intro pins s σ H x y v u Q I rx ry h
  unfold rMulU at h
  split at h
  · exact op_mul pins s σ H _ _ v u Q I rx ry ⟨_, _, rfl, rfl, h.1, h.2⟩
  · exact op_rep pins s σ H _ _ v u Q I rx ry h
  · exact h.elim
/-- an order by ints, by texts -/
def rOrd (f : Int → Int → Bool) (g : List Nat → List Nat → Bool) : R2 := fun x y H Q => match x, y with
  | .int i, .int j => Q (.bl (f i j)) H
  | .str i, .str j => Q (.bl (g i.cps.toList j.cps.toList)) H
  | _, _ => False
abbrev rLtU : R2 := rOrd (fun i j => decide (i < j)) (fun i j => decide (i < j))
abbrev rLeU : R2 := rOrd (fun i j => decide (i ≤ j)) (fun i j => !decide (j < i))
abbrev rGtU : R2 := rOrd (fun i j => decide (j < i)) (fun i j => decide (j < i))
abbrev rGeU : R2 := rOrd (fun i j => decide (j ≤ i)) (fun i j => !decide (i < j))
theorem op_ltU : OpR X (compareOp .Lt) rLtU := by
  intro pins s σ H x y v u Q I rx ry h
  unfold rLtU rOrd at h
  split at h
  · exact op_lt pins s σ H _ _ v u Q I rx ry ⟨_, _, rfl, rfl, h⟩
  · exact op_lt_str pins s σ H _ _ v u Q I rx ry ⟨_, _, rfl, rfl, h⟩
  · exact h.elim
theorem op_leU : OpR X (compareOp .LtE) rLeU := by
  intro pins s σ H x y v u Q I rx ry h
  unfold rLeU rOrd at h
  split at h
  · exact op_le pins s σ H _ _ v u Q I rx ry ⟨_, _, rfl, rfl, h⟩
  · exact op_le_str pins s σ H _ _ v u Q I rx ry ⟨_, _, rfl, rfl, h⟩
  · exact h.elim
theorem op_gtU : OpR X (compareOp .Gt) rGtU := by
  intro pins s σ H x y v u Q I rx ry h
  unfold rGtU rOrd at h
  split at h
  · exact op_gt pins s σ H _ _ v u Q I rx ry ⟨_, _, rfl, rfl, h⟩
  · exact op_gt_str pins s σ H _ _ v u Q I rx ry ⟨_, _, rfl, rfl, h⟩
  · exact h.elim
theorem op_geU : OpR X (compareOp .GtE) rGeU := by
  intro pins s σ H x y v u Q I rx ry h
  unfold rGeU rOrd at h
  split at h
  · exact op_ge pins s σ H _ _ v u Q I rx ry ⟨_, _, rfl, rfl, h⟩
  · exact op_ge_str pins s σ H _ _ v u Q I rx ry ⟨_, _, rfl, rfl, h⟩
  · exact h.elim
/-- ==, != : two objects (deep), else by value -/
def rEqU (K : PySem.W.Frag) (g : Bool → Bool) : R2 := fun x y H Q => match x, y with
  | .ref a, .ref b => ∃ d e, Dp K H (.ref a) d ∧ Dp K H (.ref b) e ∧ SeqAt.shaped d = true ∧ SeqAt.shaped e = true ∧ Q (.bl (g (PyData.eqv d e))) H
  | x, y => scal x y = true ∧ Q (.bl (g (decide (x = y)))) H
theorem op_eqU (hu : X.A.units + 64 < cLine) : OpR X (compareOp .Eq) (rEqU X.K id) := by
  intro pins s σ H x y v u Q I rx ry h
  unfold rEqU at h
  split at h
  · exact op_eqD hu pins s σ H _ _ v u Q I rx ry h
  · exact op_eq pins s σ H _ _ v u Q I rx ry h
theorem op_neU (hu : X.A.units + 64 < cLine) : OpR X (compareOp .NotEq) (rEqU X.K (!·)) := by
  intro pins s σ H x y v u Q I rx ry h
  unfold rEqU at h
  split at h
  · exact op_neD hu pins s σ H _ _ v u Q I rx ry h
  · exact op_ne pins s σ H _ _ v u Q I rx ry h
/-- x is None, True, False -/
def rIsU (g : Bool → Bool) : R2 := fun x y H Q => match y with
  | .non => Q (.bl (g (decide (x = .non)))) H
  | .bl b => Q (.bl (g (decide (x = .bl b)))) H
  | _ => False
theorem op_isU : OpR X (compareOp .Is) (rIsU id) := by
  intro pins s σ H x y v u Q I rx ry h
  unfold rIsU at h
  split at h
  · exact op_isN pins s σ H _ _ v u Q I rx ry ⟨rfl, h⟩
  · rename_i b
    cases (show u = Value.bool b from ry)
    by_cases e : x = .bl b
    · subst e
      cases (show v = Value.bool b from rx)
      exact wpAny_is_self rfl ⟨.bl true, H, I, rfl, by simpa using h⟩
    · refine wpAny_is_other ?_ ?_ ⟨.bl false, H, I, rfl, by simpa [e] using h⟩
      · first | rfl | (cases x <;> first | rfl | (cases rx; rfl) | (obtain ⟨t, rfl⟩ := rx; rfl))
      · intro z
        subst z
        exact e (RelV.inj rx rfl)
  · exact h.elim
theorem op_isnotU : OpR X (compareOp .IsNot) (rIsU (!·)) := by
  intro pins s σ H x y v u Q I rx ry h
  unfold rIsU at h
  split at h
  · exact op_notN pins s σ H _ _ v u Q I rx ry ⟨rfl, h⟩
  · rename_i b
    cases (show u = Value.bool b from ry)
    by_cases e : x = .bl b
    · subst e
      cases (show v = Value.bool b from rx)
      exact wpAny_isNot_self rfl ⟨.bl false, H, I, rfl, by simpa using h⟩
    · refine wpAny_isNot_other ?_ ?_ ⟨.bl true, H, I, rfl, by simpa [e] using h⟩
      · first | rfl | (cases x <;> first | rfl | (cases rx; rfl) | (obtain ⟨t, rfl⟩ := rx; rfl))
      · intro z
        subst z
        exact e (RelV.inj rx rfl)
  · exact h.elim
/-! ### subscripts, slices, in -/
def rIxU (K : PySem.W.Frag) : R2 := fun x y H Q => match x with
  | .str z => ∃ i c, y = .int i ∧ z.length ≤ sizeLine ∧ atI z.cps.toList i = some c ∧ Q (.str ⟨#[c]⟩) H
  | .ref p => (∃ xs i v, y = .int i ∧ (SqL K H p xs ∨ SqT K H p xs) ∧ atI xs i = some v ∧ Q v H) ∨ (∃ v, DGet H p y (some v) ∧ Q v H)
  | _ => False
theorem ix_U (hu : X.A.units + 1 < cLine) : IxR X (rIxU X.K) := by
  intro value slice pins s σ H x y v u Q I rx ry h hs
  unfold rIxU at h
  split at h
  · obtain ⟨i, c, rfl, h1, h2, q⟩ := h
    exact ix_str value slice pins s σ H _ _ v u Q I rx ry ⟨_, _, _, rfl, rfl, h1, h2, q⟩ hs
  · rcases h with ⟨xs, i, w', rfl, h1 | h1, h2, q⟩ | ⟨w', g, q⟩
    · exact ix_list value slice pins s σ H _ _ v u Q I rx ry ⟨_, _, _, _, rfl, rfl, h1, h2, q⟩ hs
    · exact ix_tup value slice pins s σ H _ _ v u Q I rx ry ⟨_, _, _, _, rfl, rfl, h1, h2, q⟩ hs
    · rename_i p
      obtain rfl : v = Value.ref p := rx
      exact tail_any (dict_typeIs I g) PySem.F.slot_dict_getitem.lookup (d_getItem hu I g ry fun w2 s2 I2 rw2 => ⟨w', H, I2, rw2, q⟩) hs
  · exact h.elim
def rSlU (K : PySem.W.Frag) : V → Option Int → Option Int → Hp → VK → Prop := fun x lo hi H Q => match x with
  | .str z => z.length ≤ sizeLine ∧ Q (.str (cutS z lo hi)) H
  | .ref a => rSlL K (.ref a) lo hi H Q ∨ rSlA K (.ref a) lo hi H Q
  | _ => False
theorem sl_U : SlR X (rSlU X.K) := by
  intro pins s σ H x v vl vu lo hi sl Q I rx hs pl pu h
  unfold rSlU at h
  split at h
  · exact sl_str pins s σ H _ v vl vu lo hi sl Q I rx hs pl pu ⟨_, rfl, h.1, h.2⟩
  · rcases h with h | h
    · exact sl_list pins s σ H _ v vl vu lo hi sl Q I rx hs pl pu h
    · exact sl_tupA pins s σ H _ v vl vu lo hi sl Q I rx hs pl pu h
  · exact h.elim
/-- in, not in -/
def rInU (K : PySem.W.Frag) (g : Bool → Bool) : R2 := fun x y H Q => match y with
  | .str z => (∃ c : Nat, x = .str ⟨#[c]⟩ ∧ Q (.bl (g (decide (c ∈ z.cps.toList)))) H) ∨ ∃ i, x = .str i ∧ Q (.bl (g (!(Builtin.Str.occurrences z i 0 z.length 1).isEmpty))) H
  | .ref p => (∃ xs, (SqL K H p xs ∨ SqT K H p xs) ∧ flatV x = true ∧ xs.all flatV = true ∧ Q (.bl (g (inV x xs))) H) ∨ (∃ o, DGet H p x o ∧ Q (.bl (g o.isSome)) H)
  | _ => False
theorem op_inU (hu : X.A.units + 1 < cLine) : OpR X (compareOp .In) (rInU X.K id) := by
  intro pins s σ H x y v u Q I rx ry h
  unfold rInU at h
  split at h
  · rcases h with ⟨c, rfl, q⟩ | ⟨i, rfl, q⟩
    · exact op_in_sign pins s σ H _ _ v u Q I rx ry ⟨_, _, rfl, rfl, q⟩
    · exact op_in_str pins s σ H _ _ v u Q I rx ry ⟨_, _, rfl, rfl, q⟩
  · rcases h with ⟨xs, h1, h2, h3, q⟩ | ⟨o, g, q⟩
    · exact op_in_seq pins s σ H _ _ v u Q I rx ry ⟨_, xs, rfl, h1, h2, h3, q⟩
    · rename_i p
      obtain rfl : u = Value.ref p := ry
      exact d_in hu I g rx fun s3 I3 => ⟨.bl o.isSome, H, I3, rfl, q⟩
  · exact h.elim
theorem op_ninU (hu : X.A.units + 1 < cLine) : OpR X (compareOp .NotIn) (rInU X.K (!·)) := by
  intro pins s σ H x y v u Q I rx ry h
  unfold rInU at h
  split at h
  · rcases h with ⟨c, rfl, q⟩ | ⟨i, rfl, q⟩
    · exact op_notIn_sign pins s σ H _ _ v u Q I rx ry ⟨_, _, rfl, rfl, q⟩
    · exact op_notin_str pins s σ H _ _ v u Q I rx ry ⟨_, _, rfl, rfl, q⟩
  · rcases h with ⟨xs, h1, h2, h3, q⟩ | ⟨o, g, q⟩
    · exact op_notIn_seq pins s σ H _ _ v u Q I rx ry ⟨_, xs, rfl, h1, h2, h3, q⟩
    · rename_i p
      obtain rfl : u = Value.ref p := ry
      exact d_notIn hu I g rx fun s3 I3 => ⟨.bl (!o.isSome), H, I3, rfl, q⟩
  · exact h.elim
/-! ### calls -/
def rLenU (K : PySem.W.Frag) : List V → Hp → VK → Prop := fun xs H Q => match xs with
  | [.str z] => z.length ≤ sizeLine ∧ Q (.int z.length) H
  | [.ref p] => (∃ ys, (SqL K H p ys ∨ SqT K H p ys) ∧ Q (.int ys.length) H) ∨ ∃ kvs, H p = some (.dK kvs) ∧ Q (.int kvs.length) H
  | _ => False
theorem call_lenU : CallR X (.builtin "len") (rLenU X.K) := by
  intro pins s σ H xs us Q I r h
  unfold rLenU at h
  split at h
  · exact call_len_str pins s σ H _ us Q I r ⟨_, rfl, h.1, h.2⟩
  · rcases h with ⟨ys, h1, q⟩ | ⟨kvs, h1, q⟩
    · exact call_len_seq pins s σ H _ us Q I r ⟨_, ys, rfl, h1, q⟩
    · exact call_lenD pins s σ H _ us Q I r ⟨_, kvs, rfl, h1, q⟩
  · exact h.elim
def rIntU : List V → Hp → VK → Prop := fun xs H Q => match xs with
  | [.int i] => Q (.int i) H
  | [.bl k] => Q (.int (if k then 1 else 0)) H
  | [.str a] => ∃ n, PySem.intText? a = some n ∧ a.length ≤ 640 ∧ Q (.int n) H
  | _ => False
theorem call_intU : CallR X (.type "int") rIntU := by
  intro pins s σ H xs us Q I r h
  unfold rIntU at h
  split at h
  · exact call_int1 pins s σ H _ us Q I r (.inl ⟨_, rfl, h⟩)
  · exact call_int1 pins s σ H _ us Q I r (.inr ⟨_, rfl, h⟩)
  · obtain ⟨n, h1, h2, q⟩ := h
    exact call_int_str pins s σ H _ us Q I r ⟨_, n, rfl, h1, h2, q⟩
  · exact h.elim
def rStrU : List V → Hp → VK → Prop := fun xs H Q => match xs with
  | [.int i] => i.natAbs.log2 < 1920 ∧ Q (.str (toString i)) H
  | [.str a] => Q (.str a) H
  | _ => False
theorem call_strU : CallR X (.type "str") rStrU := by
  intro pins s σ H xs us Q I r h
  unfold rStrU at h
  split at h
  · exact call_str_int pins s σ H _ us Q I r ⟨_, rfl, h.1, h.2⟩
  · exact SkE.call_str_str pins s σ H _ us Q I r ⟨_, rfl, h⟩
  · exact h.elim
/-- isinstance: a built-in type or an own class -/
def rIsU2 (K : PySem.W.Frag) : List V → Hp → VK → Prop := fun xs H Q => ∃ (x c : V) (t u : Value) (b : Bool), xs = [x, c] ∧ ClsV c u ∧ TyX K H x t ∧ PySem.W.kitOne K t u = some b ∧ Q (.bl b) H
end
theorem hu64_of {A : Around} {k : Nat} (hr : Room k A) : A.units + 64 < cLine := by have := hr.un; omega
theorem ite_eq {c d : Bool} {A B : Prop} (e : c = d) (h : if d = true then A else B) : if c = true then A else B := by rw [e]; exact h
theorem iteD {c : Prop} [Decidable c] {A B : Prop} (h1 : c → A) (h2 : ¬ c → B) : if decide c = true then A else B := by
  by_cases h : c
  · rw [decide_eq_true h]; exact iteT (h1 h)
  · rw [decide_eq_false h]; exact iteF (h2 h)
theorem iteND {c : Prop} [Decidable c] {A B : Prop} (h1 : ¬ c → A) (h2 : c → B) : if (!decide c) = true then A else B := by
  by_cases h : c
  · rw [decide_eq_true h]; exact iteF (h2 h)
  · rw [decide_eq_false h]; exact iteT (h1 h)
/-- a text by its signs -/
abbrev T (l : List Nat) : Str := ⟨l.toArray⟩
theorem T_of (z : Str) : z = T z.cps.toList := rfl
theorem T_inj {a b : List Nat} (h : T a = T b) : a = b := congrArg (fun x : Str => x.cps.toList) h
theorem T_app (a b : List Nat) : T a ++ T b = T (a ++ b) := by
  show (⟨a.toArray ++ b.toArray⟩ : Str) = ⟨(a ++ b).toArray⟩
  simp
theorem T_dec (a b : List Nat) : decide (V.str (T a) = V.str (T b)) = decide (a = b) := by
  by_cases h : a = b
  · subst h; simp
  · have : ¬ V.str (T a) = V.str (T b) := fun z => h (T_inj (V.str.inj z))
    rw [decide_eq_false this, decide_eq_false h]
theorem I_dec (a b : Int) : decide (V.int a = V.int b) = decide (a = b) := by
  by_cases h : a = b
  · subst h; simp
  · have : ¬ V.int a = V.int b := fun z => h (V.int.inj z)
    rw [decide_eq_false this, decide_eq_false h]
theorem B_dec (a b : Bool) : decide (V.bl a = V.bl b) = (a == b) := by cases a <;> cases b <;> rfl
theorem pe_strT {X : Cx} {x : Str} {l : List Nat} {j : Nat} {pos : Pos} (e : x = T l) : PE X (.Constant (.str x) j pos) (tC (.str (T l))) := by subst e; exact pe_str
theorem pv_some {X : Cx} : True := True.intro
theorem bb_len : bootBuiltins "len" = some (.builtin "len") := by first | rfl | decide +kernel
theorem bb_isinstance : bootBuiltins "isinstance" = some (.builtin "isinstance") := by first | rfl | decide +kernel
theorem bb_abs : bootBuiltins "abs" = some (.builtin "abs") := by first | rfl | decide +kernel
theorem bb_sorted : bootBuiltins "sorted" = some (.builtin "sorted") := by first | rfl | decide +kernel
theorem bb_min : bootBuiltins "min" = some (.builtin "min") := by first | rfl | decide +kernel
theorem bb_max : bootBuiltins "max" = some (.builtin "max") := by first | rfl | decide +kernel
theorem bb_sum : bootBuiltins "sum" = some (.builtin "sum") := by first | rfl | decide +kernel
theorem bb_all : bootBuiltins "all" = some (.builtin "all") := by first | rfl | decide +kernel
theorem bb_any : bootBuiltins "any" = some (.builtin "any") := by first | rfl | decide +kernel
theorem bb_repr : bootBuiltins "repr" = some (.builtin "repr") := by first | rfl | decide +kernel
theorem bb_int : bootBuiltins "int" = some (.type "int") := by first | rfl | decide +kernel
theorem bb_str : bootBuiltins "str" = some (.type "str") := by first | rfl | decide +kernel
theorem bb_bool : bootBuiltins "bool" = some (.type "bool") := by first | rfl | decide +kernel
theorem bb_list : bootBuiltins "list" = some (.type "list") := by first | rfl | decide +kernel
theorem bb_dict : bootBuiltins "dict" = some (.type "dict") := by first | rfl | decide +kernel
theorem bb_tuple : bootBuiltins "tuple" = some (.type "tuple") := by first | rfl | decide +kernel
theorem bb_set : bootBuiltins "set" = some (.type "set") := by first | rfl | decide +kernel
theorem bb_ValueError : bootBuiltins "ValueError" = some (.type "ValueError") := by first | rfl | decide +kernel
theorem pe_gi {X : Cx} {x : Str} {z : Int} {t : Tok} {pos : Pos} (hg : Gl X x) (hm : X.mg x = some (.int z t)) (hd : (x == ("__debug__" : Str)) = false := by decide) : PE X (.Name x pos) (tC (.int z)) := pe_glob hg hm ⟨_, rfl⟩ hd
theorem pe_gs {X : Cx} {x : Str} {z : Str} {t : Tok} {pos : Pos} (hg : Gl X x) (hm : X.mg x = some (.str z t)) (hd : (x == ("__debug__" : Str)) = false := by decide) : PE X (.Name x pos) (tC (.str z)) := pe_glob hg hm ⟨_, rfl⟩ hd
theorem pe_gr {X : Cx} {x : Str} {a : Addr} {pos : Pos} (hg : Gl X x) (hm : X.mg x = some (.ref a)) (hd : (x == ("__debug__" : Str)) = false := by decide) : PE X (.Name x pos) (tC (.ref a)) := pe_glob hg hm rfl hd
theorem pe_bt {X : Cx} {x : Str} {n : String} {pos : Pos} (hg : Gl X x) (hm : X.mg x = none) (hv : bootBuiltins x = some (.type n)) (hn : x ≠ "__name__" := by decide) (hd : (x == ("__debug__" : Str)) = false := by decide) : PE X (.Name x pos) (tC (.ty n)) := pe_bltn hg hm hv rfl hn hd
/-! isinstance against built-in types -/
theorem kt_int_int {K : PySem.W.Frag} : PySem.W.kitOne K (.type "int") (.type "int") = some true := kit_ty (by decide +kernel)
theorem kt_int_bool {K : PySem.W.Frag} : PySem.W.kitOne K (.type "int") (.type "bool") = some false := kit_ty (by decide +kernel)
theorem kt_int_str {K : PySem.W.Frag} : PySem.W.kitOne K (.type "int") (.type "str") = some false := kit_ty (by decide +kernel)
theorem kt_int_list {K : PySem.W.Frag} : PySem.W.kitOne K (.type "int") (.type "list") = some false := kit_ty (by decide +kernel)
theorem kt_int_tuple {K : PySem.W.Frag} : PySem.W.kitOne K (.type "int") (.type "tuple") = some false := kit_ty (by decide +kernel)
theorem kt_int_dict {K : PySem.W.Frag} : PySem.W.kitOne K (.type "int") (.type "dict") = some false := kit_ty (by decide +kernel)
theorem kt_bool_int {K : PySem.W.Frag} : PySem.W.kitOne K (.type "bool") (.type "int") = some true := kit_ty (by decide +kernel)
theorem kt_bool_bool {K : PySem.W.Frag} : PySem.W.kitOne K (.type "bool") (.type "bool") = some true := kit_ty (by decide +kernel)
theorem kt_bool_str {K : PySem.W.Frag} : PySem.W.kitOne K (.type "bool") (.type "str") = some false := kit_ty (by decide +kernel)
theorem kt_bool_list {K : PySem.W.Frag} : PySem.W.kitOne K (.type "bool") (.type "list") = some false := kit_ty (by decide +kernel)
theorem kt_bool_tuple {K : PySem.W.Frag} : PySem.W.kitOne K (.type "bool") (.type "tuple") = some false := kit_ty (by decide +kernel)
theorem kt_bool_dict {K : PySem.W.Frag} : PySem.W.kitOne K (.type "bool") (.type "dict") = some false := kit_ty (by decide +kernel)
theorem kt_str_int {K : PySem.W.Frag} : PySem.W.kitOne K (.type "str") (.type "int") = some false := kit_ty (by decide +kernel)
theorem kt_str_bool {K : PySem.W.Frag} : PySem.W.kitOne K (.type "str") (.type "bool") = some false := kit_ty (by decide +kernel)
theorem kt_str_str {K : PySem.W.Frag} : PySem.W.kitOne K (.type "str") (.type "str") = some true := kit_ty (by decide +kernel)
theorem kt_str_list {K : PySem.W.Frag} : PySem.W.kitOne K (.type "str") (.type "list") = some false := kit_ty (by decide +kernel)
theorem kt_str_tuple {K : PySem.W.Frag} : PySem.W.kitOne K (.type "str") (.type "tuple") = some false := kit_ty (by decide +kernel)
theorem kt_str_dict {K : PySem.W.Frag} : PySem.W.kitOne K (.type "str") (.type "dict") = some false := kit_ty (by decide +kernel)
theorem kt_list_int {K : PySem.W.Frag} : PySem.W.kitOne K (.type "list") (.type "int") = some false := kit_ty (by decide +kernel)
theorem kt_list_bool {K : PySem.W.Frag} : PySem.W.kitOne K (.type "list") (.type "bool") = some false := kit_ty (by decide +kernel)
theorem kt_list_str {K : PySem.W.Frag} : PySem.W.kitOne K (.type "list") (.type "str") = some false := kit_ty (by decide +kernel)
theorem kt_list_list {K : PySem.W.Frag} : PySem.W.kitOne K (.type "list") (.type "list") = some true := kit_ty (by decide +kernel)
theorem kt_list_tuple {K : PySem.W.Frag} : PySem.W.kitOne K (.type "list") (.type "tuple") = some false := kit_ty (by decide +kernel)
theorem kt_list_dict {K : PySem.W.Frag} : PySem.W.kitOne K (.type "list") (.type "dict") = some false := kit_ty (by decide +kernel)
theorem kt_tuple_int {K : PySem.W.Frag} : PySem.W.kitOne K (.type "tuple") (.type "int") = some false := kit_ty (by decide +kernel)
theorem kt_tuple_bool {K : PySem.W.Frag} : PySem.W.kitOne K (.type "tuple") (.type "bool") = some false := kit_ty (by decide +kernel)
theorem kt_tuple_str {K : PySem.W.Frag} : PySem.W.kitOne K (.type "tuple") (.type "str") = some false := kit_ty (by decide +kernel)
theorem kt_tuple_list {K : PySem.W.Frag} : PySem.W.kitOne K (.type "tuple") (.type "list") = some false := kit_ty (by decide +kernel)
theorem kt_tuple_tuple {K : PySem.W.Frag} : PySem.W.kitOne K (.type "tuple") (.type "tuple") = some true := kit_ty (by decide +kernel)
theorem kt_tuple_dict {K : PySem.W.Frag} : PySem.W.kitOne K (.type "tuple") (.type "dict") = some false := kit_ty (by decide +kernel)
theorem kt_dict_int {K : PySem.W.Frag} : PySem.W.kitOne K (.type "dict") (.type "int") = some false := kit_ty (by decide +kernel)
theorem kt_dict_bool {K : PySem.W.Frag} : PySem.W.kitOne K (.type "dict") (.type "bool") = some false := kit_ty (by decide +kernel)
theorem kt_dict_str {K : PySem.W.Frag} : PySem.W.kitOne K (.type "dict") (.type "str") = some false := kit_ty (by decide +kernel)
theorem kt_dict_list {K : PySem.W.Frag} : PySem.W.kitOne K (.type "dict") (.type "list") = some false := kit_ty (by decide +kernel)
theorem kt_dict_tuple {K : PySem.W.Frag} : PySem.W.kitOne K (.type "dict") (.type "tuple") = some false := kit_ty (by decide +kernel)
theorem kt_dict_dict {K : PySem.W.Frag} : PySem.W.kitOne K (.type "dict") (.type "dict") = some true := kit_ty (by decide +kernel)
theorem kt_NoneType_int {K : PySem.W.Frag} : PySem.W.kitOne K (.type "NoneType") (.type "int") = some false := kit_ty (by decide +kernel)
theorem kt_NoneType_bool {K : PySem.W.Frag} : PySem.W.kitOne K (.type "NoneType") (.type "bool") = some false := kit_ty (by decide +kernel)
theorem kt_NoneType_str {K : PySem.W.Frag} : PySem.W.kitOne K (.type "NoneType") (.type "str") = some false := kit_ty (by decide +kernel)
theorem kt_NoneType_list {K : PySem.W.Frag} : PySem.W.kitOne K (.type "NoneType") (.type "list") = some false := kit_ty (by decide +kernel)
theorem kt_NoneType_tuple {K : PySem.W.Frag} : PySem.W.kitOne K (.type "NoneType") (.type "tuple") = some false := kit_ty (by decide +kernel)
theorem kt_NoneType_dict {K : PySem.W.Frag} : PySem.W.kitOne K (.type "NoneType") (.type "dict") = some false := kit_ty (by decide +kernel)
end LX
/-! sorted(x) of a list of whole numbers or of a dict with such keys, any number of them -/
namespace LX
open PySem PySem.Spec PyProof.Rows L2
section
variable {X : Cx}
theorem call_sortedDA (hcalm : X.calm = true) : CallR X (.builtin "sorted") (fun xs H Q => ∃ (a : Addr) (kvs : List (Key × V)) (ks : List Int), xs = [.ref a] ∧ Rd H a (.dK kvs) ∧ kvs.map (·.1) = ks.map Sum.inl ∧
    ∀ (ys : List Int) (p : Addr), ys.Perm ks → ys.Pairwise (· ≤ ·) → H p = none → Q (.ref p) (upd H p (.lst (ys.map V.int)))) := by
  intro pins s σ H xs us Q I r q
  obtain ⟨a, kvs, ks, ex, hd, hks, q⟩ := q
  subst ex
  obtain ⟨u, eu, rx⟩ := vals1 r
  subst eu
  cases rx
  obtain ⟨z, lo, vs, rel, dd⟩ := dk_rd I.hok hd
  obtain ⟨ep, hat⟩ := dd.dictAt
  have hkeys : vs.map (·.1) = ks.map Sum.inl := rel.keys.symm.trans hks
  have hl : vs.length = ks.length := by
    have e := congrArg List.length hkeys
    rw [List.length_map, List.length_map] at e
    exact e
  have hkl : ks.length ≤ sizeLine := by
    have e := congrArg List.length hks
    rw [List.length_map, List.length_map] at e
    omega
  have h16 : vs.length ≤ sizeLine := by rw [hl]; exact hkl
  refine Calls.call_function_entry PyProof.Rows.kind_sorted PyProof.Rows.plain_sorted PyProof.Rows.entry_sorted (PyProof.Rows.args_sorted1 _) ?_
  unfold Builtin.«sorted»
  refine wpAny_bind (m := checkCount "sorted" 1 1 _) (wpAny_pure ?_)
  refine wpAny_bind (PySem.W.kdu_collect (A := X.A.in1) (PySem.W.kdl_dict (knd := mixKind X.prog X.w) (kvs := vs) (ep := ep) lo) (I.ok.hd hcalm) hat h16 fun h' tk acc hk hacc => ?_)
  have hal : acc.toList.length = ks.length := by rw [Array.length_toList, hacc.1, hl]
  have hS : IntsAre acc.toList ks := ints_each hal fun j v e => by
    obtain ⟨k, x, e1, e2⟩ := hacc.2 j v (by rw [← Array.getElem?_toList]; exact e)
    have e3 : (vs.map (·.1))[j]? = some k := by rw [List.getElem?_map, e1]; rfl
    rw [hkeys, List.getElem?_map] at e3
    cases e4 : ks[j]? with
    | none => rw [e4] at e3; cases e3
    | some y =>
      rw [e4] at e3
      have e5 : Sum.inl y = k := Option.some.inj e3
      subst e5
      rcases keyIs_shape (show keyIs (Sum.inl y) v = true from e2) with ⟨i, t, ek, ev⟩ | ⟨z, t, ek, ev⟩
      · cases ek
        exact ⟨y, t, rfl, ev⟩
      · cases ek
  have I1 : Inv X pins σ H { s with heap := h', toks := tk } := I.kept hk
  refine wpAny_bind (wpAny_newList ?_ (by rw [hal]; exact hkl))
  have hoL : (h'.push (seqObj "list" acc.toList.toArray 0)).get? h'.objs.size = some (seqObj "list" acc.toList.toArray 0) := Heap.get?_push_size _ rfl
  show wpAny _ _ _ _ _ { s with heap := h'.push (seqObj "list" acc.toList.toArray 0), toks := tk }
  refine wpAny_bind (wpAny_holding (wpAny_call_entry PyProof.Rows.slot_list_sort ⟨_, hoL, rfl⟩ PyProof.Rows.entry_list_sort
    (SrtO.list_sort_ord (s := { s with heap := h'.push (seqObj "list" acc.toList.toArray 0), toks := tk }) SrtO.swo_int hoL (by rw [hal]; exact hkl) (fun h2 => SrtO.ints_sortable hS h2) fun out h1 h2 => ⟨.none, rfl, ?_⟩) (PyProof.Rows.args_list_sort _)))
  obtain ⟨k1, k2, k3⟩ := SrtO.ints_out hS h1 h2
  obtain ⟨e', he'⟩ := PyProof.Rows.sortedHeap_at (vs := acc.toList) (out := out.toArray) hoL
  have hlen : ((out.map SrtO.iv).map V.int).length ≤ sizeLine := by
    rw [List.length_map, k2.length_eq]
    exact hkl
  refine wpAny_pure ⟨_, rfl, .ref h'.objs.size, upd H h'.objs.size (.lst ((out.map SrtO.iv).map V.int)), I1.laid (t' := tk) (fun b u e => ?_) (Nat.le_refl _)
    (show ObjOk X.prog X.w _ _ _ (.lst ((out.map SrtO.iv).map V.int)) from ⟨hlen, out, e', vals_of_ints k1, he'⟩), rfl, q _ _ k2 k3 (I1.hok.fresh (Nat.le_refl _))⟩
  have hb : b < h'.objs.size := Heap.lt_size e
  rw [PyProof.Rows.sortedHeap_old (Nat.ne_of_lt hb) (by rw [size_push']; exact Nat.lt_succ_of_lt hb)]
  exact Heap.get?_push_of_some _ e
def rSortedU (K : PySem.W.Frag) : List V → Hp → VK → Prop := fun vs H Q => ∃ (a : Addr) (ns : List Int), vs = [V.ref a] ∧ (SqL K H a (ns.map V.int) ∨ ∃ kvs : List (Key × V), Rd H a (.dK kvs) ∧ kvs.map (·.1) = ns.map Sum.inl) ∧
  ∀ (ns' : List Int) (p : Addr), ns'.Perm ns → ns'.Pairwise (· ≤ ·) → H p = none → Q (.ref p) (upd H p (.lst (ns'.map V.int)))
theorem call_sortedU (hcalm : X.calm = true) : CallR X (.builtin "sorted") (rSortedU X.K) := by
  intro pins s σ H xs us Q I r h
  obtain ⟨a, ns, rfl, h1 | ⟨kvs, h1, h2⟩, q⟩ := h
  · exact cr_sortedI pins s σ H _ us Q I r ⟨a, ns, rfl, h1, q⟩
  · exact call_sortedDA hcalm pins s σ H _ us Q I r ⟨a, kvs, ns, rfl, h1, h2, q⟩
end
end LX
/-! the rules of LBase with the law's own K, for the parts of a comprehension -/
namespace LX
open PySem PySem.Spec PyProof.Rows L2
section
variable {X : Cx} {K : PySem.W.Frag}
theorem ix_UK (e : X.K = K) (hu : X.A.units + 1 < cLine) : IxR X (rIxU K) := by subst e; exact ix_U hu
theorem op_addUK (e : X.K = K) : OpR X (binaryOp .Add) (rAddU K) := by subst e; exact op_addU
theorem op_eqUK (e : X.K = K) (hu : X.A.units + 64 < cLine) : OpR X (compareOp .Eq) (rEqU K id) := by subst e; exact op_eqU hu
theorem op_neUK (e : X.K = K) (hu : X.A.units + 64 < cLine) : OpR X (compareOp .NotEq) (rEqU K (!·)) := by subst e; exact op_neU hu
theorem op_inUK (e : X.K = K) (hu : X.A.units + 1 < cLine) : OpR X (compareOp .In) (rInU K id) := by subst e; exact op_inU hu
theorem op_ninUK (e : X.K = K) (hu : X.A.units + 1 < cLine) : OpR X (compareOp .NotIn) (rInU K (!·)) := by subst e; exact op_ninU hu
theorem sl_UK (e : X.K = K) : SlR X (rSlU K) := by subst e; exact sl_U
theorem call_lenUK (e : X.K = K) : CallR X (.builtin "len") (rLenU K) := by subst e; exact call_lenU
theorem pe_fldK {o : Expr} {f : Str} {pos : Pos} {ta : TE} (e : X.K = K) (he : PE X o ta) (hb : attributeBase o f X.env (eval o X.env) = eval o X.env) : PE X (.Attribute o f pos) (tFld K ta f) := by subst e; exact pe_fld he hb
def tTruK (K : PySem.W.Frag) (ta : TE) : TT := fun σ H Q => ta σ H fun x H' => ∃ k, TruV K x H' k ∧ Q k H'
theorem pt_truthK {a : Expr} {ta : TE} (e : X.K = K) (ha : PE X a ta) (he : ∀ whole, isTrue a X.env whole = (do let v ← whole; standAt a.pos; holding [v] (truthy v))) :
    PT X a (tTruK K ta) := by subst e; exact pt_truth ha he
end
end LX
/-! sorted(d, key=lambda y: d[y]) of a dict of whole numbers by whole numbers, d a captured name -/
namespace LX
open PySem PySem.Spec PySem.W PyProof.Rows L2 NdefX LamX
section
variable {P : Program} {w : World} {A : Around} {s : Shared}
/-- the lambda's call: the captured dict's value -/
theorem look_call {κ : Type} [DecidableEq κ] {knd : PySem.KeyKind P w κ} {f c' cc d : Addr} {qual x y : Str} {params : Arguments} {scope : Scope} {cl : List (Str × Addr)} {pm ctv v : Value} {px py pos : Pos} {fm : κ → Option Value} {k : κ} {i : Int} {t : Tok}
    (hroom : A.depth < recursionLimit) (ho : s.heap.get? f = some (PySem.W.kla_obj "<lambda>" qual params (.Subscript (.Name x px) (.Name y py) pos) scope cl pm c' ctv)) (hc : s.heap.CodeRec (.ref c') qual)
    (hk : scope.kind = .function) (hco : scope.isCoroutine = false) (hge : scope.isGenerator = false) (nocell : ∀ z ∈ scope.names, z.2 ≠ .cell) (hy : scope.names.lookup y = some .local) (hx : scope.names.lookup x = some .free)
    (hcx : cl.lookup x = some cc) (hcell : s.heap.IsCell cc (some (.ref d))) (hm : s.heap.MapOf knd d fm) (hkey : knd.is k v = true) (hval : fm k = some (.int i t)) (lim : s.heap.NoLimit)
    (hbind : ∀ (pm cv ctv : Value), bindArgs (PySem.W.kla_fn "<lambda>" qual params (.Subscript (.Name x px) (.Name y py) pos) scope cl pm cv ctv) ⟨[v], []⟩ = pure [(y, v)])
    (dx : (x == ("__debug__" : Str)) = false) (dy : (y == ("__debug__" : Str)) = false) (cdx : (x == ("__classdict__" : Str)) = false) :
    wpAny (model P w) A (call (.ref f) [v]) (KeyPure (.int i) s) (fun _ _ => False) s := by
  have rc : codeAny (model P w) A (.call (.ref f) ⟨[v], []⟩) (fun r s' => ∃ u, r = .ok (.ret u) ∧ KeyPure (.int i) s u s') s := by
    refine PySem.W.kla_callFunE hroom ho rfl hco hge rfl hc ?_
    rw [hbind]
    refine wpAny_pure (wpAny_newFunctionEnv nocell (fun z hz => ?_) (fun h₁ hns hsb => ⟨lim.fresh _ hsb, ?_⟩) hk)
    · have e : z = (y, v) := by simpa using hz
      rw [e]; exact hy
    show codeAny _ _ (.expr (.Subscript (.Name x px) (.Name y py) pos) (PySem.W.envX qual scope s.heap.objs.size f (.ref c') cl)) _ _
    have kp : ∀ b o, s.heap.get? b = some o → h₁.get? b = some o := fun b o e => hsb.extBut b o (Nat.ne_of_lt (Heap.lt_size e)) (Heap.get?_push_of_some _ e)
    have hcell' : h₁.IsCell cc (some (.ref d)) := by
      obtain ⟨o, h1, h2⟩ := hcell
      exact ⟨o, kp _ _ h1, h2⟩
    have hm' : h₁.MapOf knd d fm := by
      obtain ⟨o, es, ep, h1, h2⟩ := hm
      exact ⟨o, es, ep, kp _ _ h1, h2⟩
    refine PySem.W.kla_codeExpr ?_
    refine subD_of PySem.F.slot_dict_getitem.lookup (fun _ _ => rfl) ?_
    refine wpAny_Name (wpAny_loadName_free hk hx hcx hcell' ?_ cdx) dx
    refine wpAny_Name (wpAny_loadName_local hk hy hns (zip_look (ps := [y]) (us := [v]) (i := 0) (by simp) rfl rfl) ?_) dy
    refine ⟨hm'.typeIs, ?_⟩
    refine wpAny_getItem_of hkey hm' hval ?_
    exact ⟨_, rfl, _, _, rfl, kp, .int i t⟩
  refine wpAny_call (codeAny_mono rc fun r s' hq => ?_)
  obtain ⟨u, rfl, hq⟩ := hq
  exact hq
end
/-- a dict of whole numbers by whole numbers -/
def pD (ps : List (Int × Int)) : List (Key × V) := ps.map fun p => (.inl p.1, .int p.2)
theorem pD_val {ps : List (Int × Int)} {n i : Int} (nd : (ps.map (·.1)).Nodup) (h : (n, i) ∈ ps) : valV (pD ps) (.inl n) = some (.int i) := by
  induction ps with
  | nil => simp at h
  | cons p r ih =>
    obtain ⟨h1, h2⟩ := List.nodup_cons.mp nd
    unfold pD at ih ⊢
    rw [List.map_cons]
    rcases List.mem_cons.mp h with e | e
    · subst e
      exact valV_pos (p := (Sum.inl n, V.int i)) rfl
    · rw [valV_neg (p := (Sum.inl p.1, V.int p.2)) (fun z => h1 (by show p.1 ∈ _; rw [show p.1 = n from Sum.inl.inj z]; exact List.mem_map.mpr ⟨_, e, rfl⟩))]
      exact ih h2 e
theorem each_of {us : List Value} {ps : List (Int × Int)} (hl : us.length = ps.length) (h : ∀ (j : Nat) (v : Value) (p : Int × Int), us[j]? = some v → ps[j]? = some p → ∃ t, v = Value.int p.1 t) :
    PySem.W.EachIs (fun (v : Value) (p : Int × Int) => ∃ t, v = Value.int p.1 t) us ps := by
  induction us generalizing ps with
  | nil => cases ps with
    | nil => exact .nil
    | cons => simp at hl
  | cons u r ih => cases ps with
    | nil => simp at hl
    | cons p t => exact .cons (h 0 u p rfl rfl) (ih (by simpa using hl) fun j v q h1 h2 => h (j + 1) v q h1 h2)
theorem each_vals {us : List Value} {ps : List (Int × Int)} (h : PySem.W.EachIs (fun (v : Value) (p : Int × Int) => ∃ t, v = Value.int p.1 t) us ps) : Vals ((ps.map (·.1)).map V.int) us := by
  induction h with
  | nil => exact .nil
  | cons h _ ih => exact .cons h ih
section
variable {X : Cx}
theorem sort_dict_by {pins : List (Addr × Obj)} {σ : L2.St} {H : Hp} {s : Shared} {a fq : Addr} {ps : List (Int × Int)} {Q : VK} (hcalm : X.calm = true) (hu : X.A.units + 64 < cLine) (I : Inv X pins σ H s) (hd : H a = some (.dK (pD ps)))
    (turn : ∀ (v : Value) (p : Int × Int) (t : Tok), v = .int p.1 t → p ∈ ps → ∀ (h : Heap) (tk : Nat), (∀ b o, s.heap.get? b = some o → h.get? b = some o) →
      wpAny (model X.prog X.w) X.A.in1.in1 (call (.ref fq) [v]) (KeyPure (.int p.2) { s with heap := h, toks := tk }) (fun _ _ => False) { s with heap := h, toks := tk })
    (q : ∀ (ys : List (Int × Int)) (p : Addr), ys.Perm ps → ys.Pairwise (fun x y => x.2 ≤ y.2) → H p = none → Q (.ref p) (upd H p (.lst ((ys.map (·.1)).map V.int)))) :
    wpAny (model X.prog X.w) X.A (call (.builtin "sorted") [.ref a] [(Str.ofString "key", .ref fq)]) (EP X pins σ Q) X.xe s := by
  obtain ⟨z, lo, vs, rel, dd⟩ := dk_rd I.hok (Rd.of hd)
  obtain ⟨ep, hat⟩ := dd.dictAt
  have hkl : ps.length ≤ sizeLine := by
    unfold pD at z
    rw [List.length_map] at z
    exact z
  have hkeys : vs.map (·.1) = ps.map fun p => Sum.inl p.1 := by
    rw [← rel.keys]
    unfold pD
    rw [List.map_map]; rfl
  have hl : vs.length = ps.length := by
    have e := congrArg List.length hkeys
    rw [List.length_map, List.length_map] at e
    exact e
  have h16 : vs.length ≤ sizeLine := by rw [hl]; exact hkl
  refine call_function_entry_kw PyProof.Rows.kind_sorted PyProof.Rows.plain_sorted PyProof.Rows.entry_sorted (PyProof.Rows.ksk_s1 _ _) ?_
  unfold Builtin.«sorted»
  refine wpAny_bind (m := checkCount "sorted" 1 1 _) (wpAny_pure ?_)
  refine wpAny_bind (PySem.W.kdu_collect (A := X.A.in1) (PySem.W.kdl_dict (knd := mixKind X.prog X.w) (kvs := vs) (ep := ep) lo) (I.ok.hd hcalm) hat h16 fun h' tk acc hk hacc => ?_)
  have hal : acc.toList.length = ps.length := by rw [Array.length_toList, hacc.1, hl]
  have hE : PySem.W.EachIs (fun (v : Value) (p : Int × Int) => ∃ t, v = Value.int p.1 t) acc.toList ps := each_of hal fun j v p e ep' => by
    obtain ⟨k, x, e1, e2⟩ := hacc.2 j v (by rw [← Array.getElem?_toList]; exact e)
    have e3 : (vs.map (·.1))[j]? = some k := by rw [List.getElem?_map, e1]; rfl
    rw [hkeys, List.getElem?_map, ep'] at e3
    have e5 : Sum.inl p.1 = k := Option.some.inj e3
    subst e5
    rcases keyIs_shape (show keyIs (Sum.inl p.1) v = true from e2) with ⟨i, t, ek, ev⟩ | ⟨z, t, ek, ev⟩
    · cases ek
      exact ⟨t, ev⟩
    · cases ek
  have I1 : Inv X pins σ H { s with heap := h', toks := tk } := I.kept hk
  refine wpAny_bind (wpAny_newList ?_ (by rw [hal]; exact hkl))
  have hoL : (h'.push (seqObj "list" acc.toList.toArray 0)).get? h'.objs.size = some (seqObj "list" acc.toList.toArray 0) := Heap.get?_push_size _ rfl
  show wpAny _ _ _ _ _ { s with heap := h'.push (seqObj "list" acc.toList.toArray 0), toks := tk }
  have nL : ∀ b o, h'.get? b = some o → b ≠ h'.objs.size := fun b o e => Nat.ne_of_lt (Heap.lt_size e)
  refine wpAny_bind (wpAny_holding (PySem.W.list_sort_key_data (A := X.A.in1) (b := false) (s := { s with heap := h'.push (seqObj "list" acc.toList.toArray 0), toks := tk }) (fun p : Int × Int => PyData.int p.2) hoL hE ?_ ?_ hkl ?_ (PyProof.Rows.ksk_l1 _ _) (PyProof.Rows.ksk_t1 _ _) (fun v p hv hp h2 tk2 kb => ?_) fun out c h2 tk2 kb hout hlen hEo => ?_))
  · exact PySem.W.AllAlike.of (enc := fun p : Int × Int => PyData.int p.2) fun _ _ => rfl
  · exact PySem.W.Sortable.others (enc := fun p : Int × Int => PyData.int p.2) fun _ => ⟨(by intro z; cases z), fun xs => (by intro z; cases z)⟩
  · intro p _
    show X.A.units + 1 + 1 + 0 < cLine
    omega
  · obtain ⟨t, rfl⟩ := hv
    exact turn _ p t rfl hp h2 tk2 fun b o e => kb b o (nL b o (hk b o e)) (Heap.get?_push_of_some _ (hk b o e))
  · have hm := hEo
    rw [PySem.W.dataLe_int (fun p : Int × Int => p.2)] at hm
    have pm : (ps.mergeSort fun a b : Int × Int => decide (a.2 ≤ b.2)).Perm ps := List.mergeSort_perm _ _
    have pw : (ps.mergeSort fun a b : Int × Int => decide (a.2 ≤ b.2)).Pairwise (fun x y => x.2 ≤ y.2) := by
      have := List.pairwise_mergeSort (le := fun a b : Int × Int => decide (a.2 ≤ b.2)) (fun a b c h1 h2 => by simp at h1 h2 ⊢; omega) (fun a b => by simp; omega) ps
      exact this.imp fun h => of_decide_eq_true h
    generalize ps.mergeSort (fun a b : Int × Int => decide (a.2 ≤ b.2)) = ys at hm pm pw
    have hvals := each_vals hm
    have hlen2 : ((ys.map (·.1)).map V.int).length ≤ sizeLine := by
      rw [List.length_map, List.length_map, pm.length_eq]
      exact hkl
    refine wpAny_pure ⟨_, rfl, .ref h'.objs.size, upd H h'.objs.size (.lst ((ys.map (·.1)).map V.int)), I1.laid (t' := tk2) (fun b u e => kb b u (nL b u e) (Heap.get?_push_of_some _ e)) (Nat.le_refl _)
      (show ObjOk X.prog X.w _ _ _ (.lst ((ys.map (·.1)).map V.int)) from ⟨hlen2, out, c, hvals, hout⟩), rfl, q _ _ pm pw (I1.hok.fresh (Nat.le_refl _))⟩
def tSKL (T : List (Addr × Str)) (i : Nat) : TE := fun σ H Q => ∃ (a : Addr) (ps : List (Int × Int)), σ[i]? = some (some (.ref a)) ∧ H a = some (.dK (pD ps)) ∧ (ps.map (·.1)).Nodup ∧ Tabs T H ∧
  ∀ H1, ExtN H H1 → Tabs T H1 → ∀ (ys : List (Int × Int)) (q : Addr), ys.Perm ps → ys.Pairwise (fun x y => x.2 ≤ y.2) → H1 q = none → Q (.ref q) (upd H1 q (.lst ((ys.map (·.1)).map V.int)))
theorem pe_sortKeyLam {T : List (Addr × Str)} {c P : Addr} {k i : Nat} {x y : Str} {params : Arguments} {scope : Scope} {p px px2 py spos lpos kpos pos : Pos} (hcalm : X.calm = true) (hr : Room k X.A) (hg : Gl X "sorted") (hm : X.mg "sorted" = none)
    (hN : X.N[i]? = some x) (hvx : X.env.scope.names.lookup x = some .cell) (TB : TabB X.base X.mg c P) (hcode : X.env.code = .ref c) (hmT : (P, X.env.qual ++ "<lambda>") ∈ T) (huT : ∀ p ∈ T, p.1 = P → p.2 = X.env.qual ++ "<lambda>")
    (hdef : defaultsOf params X.env = ([], [])) (hk : scope.kind = .function) (hco : scope.isCoroutine = false) (hge : scope.isGenerator = false) (nocell : ∀ z ∈ scope.names, z.2 ≠ .cell) (hy : scope.names.lookup y = some .local) (hx : scope.names.lookup x = some .free)
    (hfree : ∀ z ∈ scope.names, z.2 = .free → X.env.scope.names.lookup z.1 = some .cell ∨ X.env.scope.names.lookup z.1 = some .free)
    (hbind : ∀ (q : Str) (cl : List (Str × Addr)) (v pm cv ctv : Value), bindArgs (PySem.W.kla_fn "<lambda>" q params (.Subscript (.Name x px2) (.Name y py) spos) scope cl pm cv ctv) ⟨[v], []⟩ = pure [(y, v)])
    (dx : (x == ("__debug__" : Str)) = false) (dy : (y == ("__debug__" : Str)) = false) (cdx : (x == ("__classdict__" : Str)) = false) :
    PE X (.Call (.Name "sorted" p) [.Name x px] [⟨some "key", .Lambda params (.Subscript (.Name x px2) (.Name y py) spos) scope lpos, kpos⟩] pos) (tSKL T i) := by
  refine ⟨fun pins s σ H Q I h => ?_⟩
  obtain ⟨a, ps, hs, hd, nd, hT, q⟩ := h
  have hfr : ∀ z ∈ scope.names, z.2 = .free → ∃ c, X.env.cells.lookup z.1 = some c := fun z hz e => (hfree z hz e).elim (fun q => I.ok.has _ (.inl q)) fun q => I.ok.has _ (.inr q)
  refine wpAny_Call_Name_kw (ld_blt I hg hm bb_sorted ?_)
  refine PyProof.Rows.callWith_kw (id := "sorted") (thn ((pa_cons (pe_var (pos := px) hN (Or.inr (Or.inl hvx)) dx cdx) pa_nil).run pos pins s σ H (fun vs H1 => vs = [.ref a] ∧ H1 = H) I ⟨_, hs, rfl, rfl⟩) fun us s1 hq => ?_)
  obtain ⟨vs, H1, I1, r1, e1, e2⟩ := hq
  subst e1 e2
  obtain ⟨u0, rfl, ru0⟩ := vals1 r1
  obtain rfl : u0 = Value.ref a := ru0
  show wpAny _ _ (evalAll ((do let v ← eval (.Lambda params (.Subscript (.Name x px2) (.Name y py) spos) scope lpos) X.env; standAt pos; pure v) :: [])) _ _ s1
  refine wpAny_evalAll_cons (wpAny_bind (lam_make2 I1 TB hcode hmT huT hT hdef hfr fun f c' pm ctv H2 s2 I2 eN T2 hf hfn hfrm hcO => wpAny_bind (wpAny_standAt (wpAny_pure ?_))))
  refine wpAny_evalAll_nil ?_
  show wpAny _ _ (call (.builtin "sorted") [.ref a] [(Str.ofString "key", .ref f)]) _ _ s2
  have hd2 := eN _ _ hd (by intro ps z; cases z)
  have hu64 : X.A.units + 64 < cLine := by have := hr.un; omega
  refine sort_dict_by hcalm hu64 I2 hd2 (fun v pr t hv hp h tk kb => ?_) (q H2 eN T2)
  subst hv
  have Ih : Inv X pins σ H2 { s2 with heap := h, toks := tk } := I2.kept kb
  obtain ⟨m, hn, hl⟩ := I2.loc
  obtain ⟨u, r, l⟩ := hl i x (.ref a) hN hs (Or.inr (Or.inl hvx))
  obtain rfl : u = Value.ref a := r
  rcases l with ⟨hk', _⟩ | ⟨_, cc, hcc, hcell⟩
  · have hk' : X.env.scope.names.lookup x = some .local := hk'
    rw [hvx] at hk'
    cases hk'
  obtain ⟨z, lo, ws, rel, dd⟩ := dk_rd Ih.hok (Rd.of hd2)
  obtain ⟨w', hw, rw'⟩ := RelO.some_of (v := .int pr.2) (o := valueAt ws (.inl pr.1)) (by have := rel.val (.inl pr.1); rw [pD_val nd (show (pr.1, pr.2) ∈ ps from hp)] at this; exact this)
  obtain ⟨t', rfl⟩ := rw'
  refine look_call (A := X.A.in1.in1) (s := { s2 with heap := h, toks := tk }) (knd := mixKind X.prog X.w) (k := .inl pr.1) (t := t') ?_ (kb _ _ hf) (codeO_at Ih.hok hcO) hk hco hge nocell hy hx (clo_has hfr (PySem.mem_of_lookup hx) hcc) ?_ dd.mapOf ?_ hw Ih.nolimit (fun _ _ _ => hbind _ _ _ _ _ _) dx dy cdx
  · have := hr.dp
    show X.A.depth < _
    omega
  · obtain ⟨o, h1, h2⟩ := hcell
    exact ⟨o, kb _ _ h1, h2⟩
  · exact kV_is (k := .inl pr.1) ⟨t, rfl⟩
end
/-- a def whose code object is known: it makes a lambda -/
structure FunC (K : PySem.W.Frag) (x qual : Str) (st : Stmt) (f : Addr) (fd : FuncData) (c : Addr) : Prop where
  ex : ∃ (oc : Value) (od : Option Addr) (kV doc pm : Value) (an : Option Addr) (ct : Value) (osl : Array (Option Value)),
    fd = PySem.W.fnOf x qual (defArgs st) (defBody st) (defScope st) .none kV doc pm an (.ref c) ct ∧ K.lookup f = some ⟨oc, od, .func fd, osl⟩ ∧ PySem.W.codeIn K (.ref c) qual = true
theorem FunC.ok {P : Program} {w : World} {K : PySem.W.Frag} {mg : Str → Option Value} {base : Heap} {x qual : Str} {st : Stmt} {f c : Addr} {fd : FuncData} {N ps : List Str} {k : Nat} {sp : Sp} (F : FunC K x qual st f fd c) (S : FnScope N ps (defScope st)) (len : ∀ vs H Q E, sp vs H Q E → vs.length = ps.length)
    (hbody : ∀ (A : Around) (outer : List Env) (s : Shared) (H : Hp) (vs : List V) (Q : VK) (E : XK), Room k (A.deeper (envOfC qual (defScope st) s.heap.objs.size f (.ref c))) → sp vs H Q E →
      ∃ t, PSs (cxOf CX0 P w K mg base N qual (defScope st) f (.ref c) A outer s H E).nox (defBody st) t ∧ t { nx := fun _ H' => Q .non H', rt := Q } (L2.start N vs) H) : FnOk P w K mg base CX0 (k + 1) f fd ps sp := by
  obtain ⟨oc, od, kV, doc, pm, an, ct, osl, rfl, lk, hcd⟩ := F.ex
  refine fn_of lk hcd S len fun A outer s H vs Q E hr hsp => ?_
  obtain ⟨t, h, q⟩ := hbody A outer s H vs Q E hr hsp
  exact ⟨t, h.nox, q⟩
end LX
/-! own exceptions over ValueError whose __init__ begins with super().__init__(..) -/
namespace LX
open PySem PySem.Spec PyProof.Rows L2 NdefX PySem.W PySem.HandSPX

/-- what the written part says of the class at C and of its __init__ at f -/
structure SupTxt (P : Program) (K : Frag) (mg : Str → Option Value) (C : Addr) (cda cc : Addr) (scope : Scope) : Prop where
  ox : OexC K C
  code : ∃ (ccl : Value) (cdd : Option Addr) (vs : Array Value) (ccs : Array (Option Value)) (file : Str) (tf : Tok), K.lookup cda = some ⟨ccl, cdd, .fields vs, ccs⟩ ∧ vs[2]? = some (.str file tf) ∧ ((P.main.file : Str) == file) = true
  cell : ∃ (cl : Value) (cld : Option Addr) (csl : Array (Option Value)), K.lookup cc = some ⟨cl, cld, .cell (some (.ref C)), csl⟩
  cls : ∃ cdC, clsIn K C = some cdC
  sub : mroIn K C (.ref C) = some true
  init : ks_superIn K C C "__init__" = some (some (.builtin "ValueError.__init__"))
  isB : subIn K (.ref C) (.type "ValueError") = some true
  third : nsIn K cStatics "thirdparty.any" = some none
  mgS : mg "super" = none
  hks : scope.names.lookup ("super" : Str) = some .globalImplicit
  hkc : scope.names.lookup ("__class__" : Str) = some .free
  htop : (P.main.scope.names.lookup ("super" : Str)).isSome = false

section
variable {prog : Program} {w : World} {M : Model} {A : Around} {E : Value → Shared → Prop} {s : Shared} {i : String} {x u : Addr}
theorem mw_callWith {pos : Pos} {first : List Value} {args : List (Bool × Sem Value)} {Q : Value → Shared → Prop} (hplain : args.any (·.1) = false)
    (h : wpAny M A (evalArgs (.ref u) true args []) (fun ar s₁ => s₁.heap.get? u = some (kxs_mw i x) ∧ wpAny M A (call (.ref u) (first ++ ar.pos) ar.kw) Q E s₁) E s) : wpAny M A (callWith pos (.ref u) first args []) Q E s :=
  kxs_callWith (i := i) (x := x) hplain h
theorem mw_call {t0 C : Addr} {rest : List Value} {nm q : Str} {N : Addr} {bs bm : List Value} {hdct : Bool} {sn : List Str} {sub : List Value} {ab : Bool} {col : Option Bool} {dd : Option Addr} {k0 k1 k2 k3 k5 : Option Value} {h : Heap} {g : Array GenState} {d : Drawn} {t : Nat} {os : OsState} {Q : Value → Shared → Prop}
    (hC : h.get? C = some (excClassObj nm q C N bs bm hdct sn sub ab col dd k0 k1 k2 k3 k5 "ValueError.__new__")) (he : h.get? x = some (excO C t0)) (hu : h.get? u = some (kxs_mw "ValueError.__init__" x)) (hrest : rest.length ≤ sizeLine)
    (hq : ∀ h' t1, (∀ b o, b ≠ x → h.get? b = some o → h'.get? b = some o) → h'.get? x = some (excO C t1) → Q .none ⟨h', g, d, t, os⟩) :
    wpAny (model prog w) A (call (.ref u) rest) Q E ⟨h, g, d, t, os⟩ := by
  refine wpAny_call (codeAny_of_tree ?_)
  show wpAny _ A.in1 (callAny (.ref u) ⟨rest, []⟩) _ _ _
  simp only [callAny]
  refine wpAny_bind (wpAny_load hu ?_)
  simp only [kxs_mw, show (Value.type "method-wrapper" == Value.type "method" || Value.type "method-wrapper" == Value.type "builtin_function_or_method" || Value.type "method-wrapper" == Value.type "method-wrapper") = true by decide, if_true]
  refine KFB.if_so (by decide) ?_
  refine wpAny_bind (check_bound_init F.excBase_ValueError.toExcCallFacts hC he rfl ?_)
  refine wpAny_bind (wpAny_pure (wpAny_pure ?_))
  refine ⟨plainId_quiet F.excBase_ValueError.init.plain _, codeAny_builtin F.excBase_ValueError.initEntry ?_⟩
  rw [Around.under_plainId F.excBase_ValueError.init.plain _]
  wp_walk
  refine hq _ h.objs.size (fun b o hb ho => ?_) ?_
  · rw [Heap.get?_update_other _ _ (Ne.symm hb)]
    exact Heap.get?_push_of_some _ ho
  · rw [Heap.get?_update_self _ (Heap.get?_push_of_some _ he) rfl]
    rfl
end

/-- the reading of super().__init__(e, ..) as the first statement of C's own __init__, self in slot 0 -/
def tSup (C : Addr) (ta : TA) : TS := fun D σ H => ∃ a : Addr, σ[0]? = some (some (.ref a)) ∧ H a = some (exo a C none) ∧ ta σ H fun vs H1 => vs.length ≤ sizeLine ∧ H1 a = some (exo a C none) ∧ D.nx σ H1

section
variable {P : Program} {w : World} {K : PySem.W.Frag} {mg : Str → Option Value} {base : Heap}
theorem fn_sup {CX : CXT} {k : Nat} {f : Addr} {name qual : Str} {params : Arguments} {scope : Scope} {dV kV doc pm ct oc : Value} {cda cc C : Addr} {an od : Option Addr} {osl : Array (Option Value)} {N ps : List Str} {sp : Sp}
    {p0 p1 p2 p3 p4 : Pos} {e : Expr} {es : List Expr} {rest : List Stmt} {ar : Arg}
    (lk : K.lookup f = some ⟨oc, od, .func (PySem.W.fnX name qual params (.Expr (.Call (.Attribute (.Call (.Name "super" p0) [] [] p1) "__init__" p2) (e :: es) [] p3) p4 :: rest) scope [("__class__", cc)] dV kV doc pm an (.ref cda) ct), osl⟩)
    (hcd : PySem.W.codeIn K (.ref cda) qual = true) (S : NScope N ps ["__class__"] scope) (T : SupTxt P K mg C cda cc scope) (hp : (params.posonlyargs ++ params.args).head? = some ar) (hp0 : ps[0]? = some ar.arg)
    {pl : Env → Sem Bool}
    (hev : ∀ L, eval (.Call (.Attribute (.Call (.Name "super" p0) [] [] p1) "__init__" p2) (e :: es) [] p3) (envX qual scope L f (.ref cda) [("__class__", cc)]) = (do
      let ov ← attributeBase (.Call (.Name "super" p0) [] [] p1) "__init__" (envX qual scope L f (.ref cda) [("__class__", cc)]) (eval (.Call (.Name "super" p0) [] [] p1) (envX qual scope L f (.ref cda) [("__class__", cc)]))
      standAt p2.atName
      let (f', first) ← holding [ov] (getMethod ov "__init__" (pl (envX qual scope L f (.ref cda) [("__class__", cc)])))
      callWith p3 f' first (backTo p3 (starEach (e :: es) (envX qual scope L f (.ref cda) [("__class__", cc)]))) []))
    (hst : ∀ env, starEach (e :: es) env = (false, eval e env) :: starEach es env) (hplain : ∀ env, (backTo p3 (starEach es env)).any (·.1) = false)
    (hint : ∀ L, interactive (envX qual scope L f (.ref cda) [("__class__", cc)]) = false) (hsw : ∀ L, swapsWith (.Call (.Attribute (.Call (.Name "super" p0) [] [] p1) "__init__" p2) (e :: es) [] p3) none p4.line (envX qual scope L f (.ref cda) [("__class__", cc)]) = pure false)
    (len : ∀ vs H Q E, sp vs H Q E → vs.length = ps.length)
    (hbody : ∀ (A : Around) (outer : List Env) (s : Shared) (H : Hp) (vs : List V) (Q : VK) (E : XK), Room k (A.deeper (envX qual scope s.heap.objs.size f (.ref cda) [("__class__", cc)])) → sp vs H Q E →
      ∃ ta t, PA (ncx CX P w K mg base N ⟨name, qual, params, .Expr (.Call (.Attribute (.Call (.Name "super" p0) [] [] p1) "__init__" p2) (e :: es) [] p3) p4 :: rest, scope, [("__class__", cc)], cda⟩ f A outer s H E) (e :: es) ta ∧
        PSs (ncx CX P w K mg base N ⟨name, qual, params, .Expr (.Call (.Attribute (.Call (.Name "super" p0) [] [] p1) "__init__" p2) (e :: es) [] p3) p4 :: rest, scope, [("__class__", cc)], cda⟩ f A outer s H E) rest t ∧
        tSeq (tSup C ta) t { nx := fun _ H' => Q .non H', rt := Q } (startF N vs [some (.ref C)]) H) :
    FnOk P w K mg base CX (k + 1) f (PySem.W.fnX name qual params (.Expr (.Call (.Attribute (.Call (.Name "super" p0) [] [] p1) "__init__" p2) (e :: es) [] p3) p4 :: rest) scope [("__class__", cc)] dV kV doc pm an (.ref cda) ct) ps sp := by
  refine ⟨len, fun A outer s H args us vs Q E hr e0 hb r hsp => ?_⟩
  have hl := len _ _ _ _ hsp
  have KX : K.In s.heap := e0.mod.kin.keeps fun b o e => (e0.bs b o e).1
  have lim : s.heap.NoLimit := e0.mod.nolimit.keeps fun b o e => (e0.bs b o e).1
  obtain ⟨cl, cld, csl, hcell⟩ := T.cell
  have CA : CellsAt [(("__class__" : Str), cc)] ["__class__"] [some (.ref C)] s.heap H := by
    have hcc : s.heap.get? cc = some ⟨cl, cld, .cell (some (.ref C)), csl⟩ := KX _ _ hcell
    have hn : H cc = none := (e0.bs cc _ (e0.mod.kin _ _ hcell)).2
    refine ⟨rfl, fun y c h => ?_, fun y z c h1 h2 => ?_, fun j y h => ?_⟩
    · have : y = "__class__" ∧ c = cc := by
        simp only [List.lookup] at h
        split at h
        · rename_i q
          exact ⟨by simpa using q, (Option.some.inj h).symm⟩
        · cases h
      obtain ⟨rfl, rfl⟩ := this
      exact ⟨hn, _, _, hcc, rfl⟩
    · have key : ∀ {y : Str}, List.lookup y [(("__class__" : Str), cc)] = some c → y = "__class__" := fun {y} h => by
        simp only [List.lookup] at h
        split at h
        · rename_i q
          simpa using q
        · cases h
      rw [key h1, key h2]
    · cases j with
      | zero =>
        have : y = "__class__" := (Option.some.inj h).symm
        subst this
        refine ⟨cc, by simp [List.lookup], fun v hv => ?_⟩
        have : v = .ref C := by simpa using hv.symm
        subst this
        exact ⟨.ref C, rfl, _, hcc, rfl⟩
      | succ j => simp at h
  refine ks_codeAny_call_defAt (binds := ps.zip us) hr.depth (KX _ _ lk) rfl lim (codeRec_of KX hcd) rfl hb S.nocell (fun x hx => S.par x.1 (List.of_mem_zip hx).1) (fun h₁ hns kp => ?_) S.co S.gen S.kind
  obtain ⟨ta, t, hta, ht, hq⟩ := hbody A outer s H vs Q E (hr.deeper _) hsp
  obtain ⟨a, hσ, hea, hq⟩ := hq
  have I : Inv (ncx CX P w K mg base N ⟨name, qual, params, .Expr (.Call (.Attribute (.Call (.Name "super" p0) [] [] p1) "__init__" p2) (e :: es) [] p3) p4 :: rest, scope, [("__class__", cc)], cda⟩ f A outer s H E) [] (startF N vs [some (.ref C)]) H { s with heap := h₁, toks := s.toks + (ps.zip us).length } :=
    inv_startN (F := ⟨name, qual, params, .Expr (.Call (.Attribute (.Call (.Name "super" p0) [] [] p1) "__init__" p2) (e :: es) [] p3) p4 :: rest, scope, [("__class__", cc)], cda⟩) S hr.hd e0 hl r CA hns kp
  generalize hX : ncx CX P w K mg base N ⟨name, qual, params, .Expr (.Call (.Attribute (.Call (.Name "super" p0) [] [] p1) "__init__" p2) (e :: es) [] p3) p4 :: rest, scope, [("__class__", cc)], cda⟩ f A outer s H E = X at hta ht I
  have eK : X.K = K := by rw [← hX]; rfl
  have eP : X.prog = P := by rw [← hX]; rfl
  have ew : X.w = w := by rw [← hX]; rfl
  have emg : X.mg = mg := by rw [← hX]; rfl
  have eN : X.N = N := by rw [← hX]; rfl
  have eenv : X.env = envX qual scope s.heap.objs.size f (.ref cda) [("__class__", cc)] := by rw [← hX]; rfl
  have eA : X.A = A.deeper X.env := by rw [← hX]; rfl
  have exe : X.xe = fun e s' => wpAny (model P w) (A.deeper (envX qual scope s.heap.objs.size f (.ref cda) [("__class__", cc)])) (leaving (envX qual scope s.heap.objs.size f (.ref cda) [("__class__", cc)]) e) (fun _ s'' => CX outer H s E e s'') (fun e' s'' => CX outer H s E e' s'') s' := by rw [← hX]; rfl
  have fin : ∀ {s' : Shared} {σ' : L2.St} {H' : Hp} {v : V} {u : Value}, Inv X [] σ' H' s' → L2.RelV v u → Q v H' → CE outer P w H s Q u s' :=
    fun {s' σ' H' v u} J rv q => by
      subst hX
      exact ⟨v, H', J.os, J.bare, J.base, J.hok, rv, q⟩
  show PySem.wpAt (model P w) (A.deeper (envX qual scope s.heap.objs.size f (.ref cda) [("__class__", cc)])) (.func (.Expr (.Call (.Attribute (.Call (.Name "super" p0) [] [] p1) "__init__" p2) (e :: es) [] p3) p4 :: rest) (envX qual scope s.heap.objs.size f (.ref cda) [("__class__", cc)]))
    (execs (.Expr (.Call (.Attribute (.Call (.Name "super" p0) [] [] p1) "__init__" p2) (e :: es) [] p3) p4 :: rest) (envX qual scope s.heap.objs.size f (.ref cda) [("__class__", cc)])) _ _ _
  rw [← eenv, ← eA]
  have eM : model P w = model X.prog X.w := by rw [eP, ew]
  rw [eM]
  refine ks_wpAt_mono (Q := SP X [] { nx := fun _ H' => Q .non H', rt := Q }) (E := X.xe) ?_ (fun fl s' hs => ?_) (fun e s' hs => ?_)
  · refine ks_wpAt_execs_cons (ks_wpAt_Expr_any (ks_wpAt_MethodCall ?_ (by rw [eenv]; exact hev _)) (by rw [eenv]; exact hint _) (by rw [eenv]; exact hsw _))
    -- super()
    obtain ⟨ccl, cdd, cvs, ccs, file, tf, hcode, hvs, hfile⟩ := T.code
    obtain ⟨cdC, hcl⟩ := T.cls
    obtain ⟨t1, ho⟩ := exo_at I.hok hea
    have XK : K.In h₁ := by have := I.kIn; rw [eK] at this; exact this
    obtain ⟨oD, hD1, hD2⟩ : ∃ oD, h₁.get? C = some oD ∧ oD.data = .cls cdC := by
      unfold clsIn at hcl
      split at hcl
      · rename_i c d cd' sl ho
        cases hcl
        exact ⟨_, XK _ _ ho, rfl⟩
      · cases hcl
    have hN0 : X.N[0]? = some ar.arg := by
      rw [eN]
      have z := congrArg (fun l => l[0]?) S.pre
      rw [List.getElem?_take_of_lt (by simp)] at z
      rw [z, List.getElem?_append_left (by obtain ⟨h0, _⟩ := List.getElem?_eq_some_iff.mp hp0; exact h0), hp0]
    have harl : scope.names.lookup ar.arg = some .local := S.par _ (List.mem_of_getElem? hp0)
    obtain ⟨m, hn, hlk⟩ := I.loc
    obtain ⟨u0, ru0, lo0⟩ := hlk 0 ar.arg (.ref a) hN0 hσ (by rw [eenv]; exact Or.inl harl)
    obtain rfl : u0 = Value.ref a := ru0
    have hm0 : m ar.arg = some (.ref a) := by
      rcases lo0 with ⟨_, z⟩ | ⟨z, _⟩
      · exact z
      · exfalso
        have z' : scope.names.lookup ar.arg = some .cell ∨ scope.names.lookup ar.arg = some .free := by rw [eenv] at z; exact z
        rw [harl] at z'
        rcases z' with z' | z' <;> cases z'
    have hkind : X.env.scope.kind = .function := I.ok.kind
    have hks : X.env.kindOf "super" = some .globalImplicit := by rw [eenv]; exact T.hks
    have hkc : X.env.kindOf "__class__" = some .free := by rw [eenv]; exact T.hkc
    have hka : X.env.kindOf ar.arg = some .local := by rw [eenv]; exact harl
    refine ks_wpAt_super_base (of := ⟨oc, od, .func (PySem.W.fnX name qual params (.Expr (.Call (.Attribute (.Call (.Name "super" p0) [] [] p1) "__init__" p2) (e :: es) [] p3) p4 :: rest) scope [("__class__", cc)] dV kV doc pm an (.ref cda) ct), osl⟩) (f := f) (cc := cda) hks hkc (by decide) (by rw [eenv]) (XK _ _ lk) rfl hp (by rw [eenv]) (XK _ _ hcode) rfl hvs (by rw [eP]; exact hfile) (by rw [eP]; exact T.htop) ?_
    obtain ⟨mb, hmb1, hmb2⟩ := I.mod.blt
    refine ks_loadName_global hkind hks (Calls.loadGlobal_builtin (by rw [I.ok.glob]; exact I.mod.glob.keeps I.bk) (by rw [emg]; exact T.mgS) (by rw [I.ok.blt]; exact hmb1.keeps I.bk) ((hmb2 _ (by decide)).trans PyProof.Rows.Boot.super) ⟨rfl, ?_⟩)
    refine wpAny_loadName_free (c := cc) hkind hkc (by rw [eenv]; simp [List.lookup]) ⟨_, XK _ _ hcell, rfl⟩ ?_
    refine wpAny_loadName_local hkind hka hn hm0 ?_
    refine ks_wpAny_isType_cls hD1 hD2 ⟨rfl, ?_⟩
    refine ks_wpAny_call_super (C := C) hD1 hD2 ho rfl (fun c z => by cases z) (looks_mroIn XK T.sub) (fun h2 e2 k2 => ?_)
    have I2 : Inv X [] (startF N vs [some (.ref C)]) H { s with heap := h2, toks := s.toks + (ps.zip us).length } := I.kept (t' := s.toks + (ps.zip us).length) k2
    have XK2 : K.In h2 := XK.keeps k2
    have hx2 := k2 _ _ ho
    have II : PySem.W.InstAt h2 a ({ cls := .ref C, dict := none, data := .fields #[.ref t1, .none, .none, .none, .bool false, .none] } : Obj) C none := ⟨hx2, rfl, rfl, trivial⟩
    have hsup := T.init
    unfold ks_superIn at hsup
    rw [hcl] at hsup
    refine kxs_getMethod kxs_ValueError e2 (looks_opaque XK2 T.third) (l₀ := cdC.mro) (fun A Q E s k q => wpAny_bind ((looks_clsIn XK2 hcl) A _ E s k (wpAny_pure q))) rfl XK2 hsup (II.type.andThen (looks_subIn XK2 T.isB)) (ks_ne XK2 II hcl) (by decide) ?_
    -- the wrapper stands, pinned
    have k3 : ∀ b o, h2.get? b = some o → (h2.push (kxs_mw "ValueError.__init__" a)).get? b = some o := fun b o q => Heap.get?_push_of_some _ q
    have I3 : Inv X [] (startF N vs [some (.ref C)]) H { s with heap := h2.push (kxs_mw "ValueError.__init__" a), toks := s.toks + (ps.zip us).length + 1 } := I2.kept (t' := s.toks + (ps.zip us).length + 1) k3
    have hmw : (h2.push (kxs_mw "ValueError.__init__" a)).get? h2.objs.size = some (kxs_mw "ValueError.__init__" a) := Heap.get?_push_at rfl rfl
    have I4 : Inv X [(h2.objs.size, kxs_mw "ValueError.__init__" a)] (startF N vs [some (.ref C)]) H { s with heap := h2.push (kxs_mw "ValueError.__init__" a), toks := s.toks + (ps.zip us).length + 1 } := by
      refine I3.pins_of fun p hp => ?_
      obtain rfl : p = (h2.objs.size, kxs_mw "ValueError.__init__" a) := by simpa using hp
      exact ⟨hmw, I2.hok.fresh (Nat.le_refl _), Nat.ne_of_gt I2.lt, I2.nofs (Nat.le_refl _), fun v z => by cases z⟩
    have hargs := hta.run p3 _ _ _ _ _ I4 hq
    have hst' := hst X.env
    rw [hst'] at hargs ⊢
    refine kxs_callWith (i := "ValueError.__init__") (x := a) (by show (false || (backTo p3 (starEach es X.env)).any (·.1)) = false; rw [hplain]; rfl) (PySem.Calls.evalArgs_plain (thn hargs fun us2 s2 hh => ?_))
    obtain ⟨vs2, H2, J, rv2, hlen2, hea2, hnx⟩ := hh
    obtain ⟨hu2, _⟩ := J.pin (h2.objs.size, kxs_mw "ValueError.__init__" a) (List.mem_append_right _ (by simp))
    refine ⟨hu2, ?_⟩
    obtain ⟨nm, q, N', bs, bm, sn, sub, ab, col, dd, k0, k1, k2', k3', k5, hC, hbm⟩ := T.ox.cls
    obtain ⟨t3, ho3⟩ := exo_at J.hok hea2
    have XK4 : K.In s2.heap := by have := J.kIn; rw [eK] at this; exact this
    obtain ⟨hp4, g4, d4, tk4, os4⟩ := s2
    refine mw_call (XK4 _ _ hC) ho3 hu2 (by show us2.length ≤ sizeLine; rw [← rv2.length]; exact hlen2) fun h5 t5 k5 hx5 => ?_
    have J5 := J.write (t' := tk4) (x := a) (e := a) (o := exo a C none) (by rw [hea2]; exact True.intro) (.inl rfl) k5 ⟨_, hx5⟩ (exo_ok hx5)
    have eu : upd H2 a (exo a C none) = H2 := by
      funext b
      by_cases hb : b = a
      · rw [hb, upd_same, hea2]
      · rw [upd_ne hb]
    rw [eu] at J5
    have J6 : Inv X [] (startF N vs [some (.ref C)]) H2 { heap := h5, gens := g4, drawn := d4, toks := tk4, os := os4 } := J5.pins_of fun p hp => by cases hp
    exact wpAt_of_wpAny (ht.run [] _ _ _ _ J6 hnx)
  · cases fl with
    | ret u =>
      obtain ⟨v, σ', H', J, rv, q⟩ := hs
      exact fin J rv q
    | next =>
      obtain ⟨σ', H', J, q⟩ := hs
      exact fin (v := V.non) (u := Value.none) J rfl q
    | brk =>
      obtain ⟨_, _, _, q⟩ := hs
      exact False.elim q
    | cont =>
      obtain ⟨_, _, _, q⟩ := hs
      exact False.elim q
  · rw [exe] at hs
    rw [eP, ew]
    exact hs
end
end LX
/-! own exceptions that carry fields, caught and asked; defs called where one is handled -/
namespace LX
open PySem PySem.Spec PyProof.Rows L2 NdefX
/-- what an own exception class says -/
structure ExK (K : PySem.W.Frag) (D : Addr) : Prop where
  ox : OexC K D
  hg : PySem.W.findIn K (.ref D) "__getattribute__" = some (some (.builtin "BaseException.__getattribute__"))
  hk : PySem.W.findIn K (.ref D) "__getattr__" = some none
  hd : PySem.W.hasDictIn K D = true
  ha : PySem.W.findIn K (.ref D) "__class__" = some (some (.builtin "object.__class__"))
  hn : PySem.W.specialIn K (.builtin "object.__class__") "__get__" = some (some (.builtin "getset_descriptor.__get__"))
  ht : PySem.W.takesIn K (.builtin "object.__class__") = some true
  hm : PySem.W.mroIn K D (.type "object") = some true
section
variable {P : Program} {w : World} {K : PySem.W.Frag} {mg : Str → Option Value} {base : Heap}
theorem okN {x qual : Str} {st : Stmt} {f : Addr} {fd : FuncData} {N ps : List Str} {k : Nat} {sp : Sp} (F : Fun K x qual st f fd) (S : FnScope N ps (defScope st)) (len : ∀ vs H Q E, sp vs H Q E → vs.length = ps.length)
    (hbody : ∀ (cdv : Value) (A : Around) (outer : List Env) (s : Shared) (H : Hp) (vs : List V) (Q : VK) (E : XK), Room k (A.deeper (envOfC qual (defScope st) s.heap.objs.size f cdv)) → sp vs H Q E →
      ∃ t, PSs (cxOf (L2N.CX P w) P w K mg base N qual (defScope st) f cdv A outer s H E) (defBody st) t ∧ t { nx := fun _ H' => Q .non H', rt := Q } (L2.start N vs) H) : FnOk P w K mg base (L2N.CX P w) (k + 1) f fd ps sp := by
  obtain ⟨oc, od, kV, doc, pm, an, cdv, ct, osl, rfl, lk, hcd⟩ := F.ex
  exact fn_of lk hcd S len fun A outer s H vs Q E hr hsp => hbody cdv A outer s H vs Q E hr hsp
end
section
variable {X : Cx} {o e : Expr} {es : List Expr} {to te : TE} {ta : TA} {f : Str} {p p' p1 p2 pos : Pos}
theorem pmk_x {CX : CXT} {x : Str} {C fI : Addr} {k : Nat} {fd : FuncData} {ps : List Str} {sp : Sp} (T : OexC X.K C) (iC : PySem.W.findIn X.K (.ref C) "__init__" = some (some (.ref fI)) ∧ PySem.W.typeIn X.K (.ref fI) = some (.type "function"))
    (F1 : FnOk X.prog X.w X.K X.mg X.base CX k fI fd ps sp) (hr : Room (k + 1) X.A) (hb : Binds X.K fd ps []) (hx : Passes CX X (fun _ _ _ => False)) (hg : Gl X x) (hm : X.mg x = some (.ref C)) (ha : PA X (e :: es) ta)
    (hdb : (x == ("__debug__" : Str)) = false := by decide) (he : starEach (e :: es) X.env = (false, eval e X.env) :: starEach es X.env := by rfl) (hpl : (backTo pos (starEach es X.env)).any (·.1) = false := by rfl) :
    L2N.PMk X (.Call (.Name x p) (e :: es) [] pos) (tMkO C sp [] ta) := by
  obtain ⟨iC, tI⟩ := iC
  intro pins s σ H Q I h
  obtain ⟨nm, q, N, bs, bm, sn, sub, ab, col, dd, k0, k1, k2, k3, k5, hC, hbm⟩ := T.cls
  refine wpAny_Call_Name_kw (ld_glob I hg hm ?_ hdb)
  refine PySem.W.callWith_K (h₀ := X.base) I.ok.mod.kin T.kC (thn (ha.run pos pins s σ H _ I h) fun us s1 ⟨vs, H1, I1, r1, hz, q1⟩ => ⟨I1.kIn, ?_⟩) he hpl
  show wpAny _ _ (call (.ref C) us) _ _ _
  obtain ⟨hp, g, dr, tk, os⟩ := s1
  have hsz : hp.objs.size ≤ hp.objs.size + 1 := Nat.le_succ _
  have hn : H1 (hp.objs.size + 1) = none := I1.hok.fresh hsz
  have hq := q1 (hp.objs.size + 1) hn
  rw [List.append_nil] at hq
  have kk : ∀ b o, hp.get? b = some o → ((hp.push (PySem.W.kdv_tup us)).push (PySem.HandSPX.excO C hp.objs.size)).get? b = some o := fun b o e => Heap.get?_push_of_some _ (Heap.get?_push_of_some _ e)
  have hget : ((hp.push (PySem.W.kdv_tup us)).push (PySem.HandSPX.excO C hp.objs.size)).get? (hp.objs.size + 1) = some (PySem.HandSPX.excO C hp.objs.size) := by heap_get
  have I2 : Inv X pins σ (upd H1 (hp.objs.size + 1) (exo (hp.objs.size + 1) C none)) ⟨(hp.push (PySem.W.kdv_tup us)).push (PySem.HandSPX.excO C hp.objs.size), g, dr, tk, os⟩ :=
    I1.laid (t' := tk) (a := hp.objs.size + 1) (o := exo (hp.objs.size + 1) C none) (h' := (hp.push (PySem.W.kdv_tup us)).push (PySem.HandSPX.excO C hp.objs.size)) kk hsz (exo_ok hget)
  have r2 : Vals (V.ref (hp.objs.size + 1) :: vs) (Value.ref (hp.objs.size + 1) :: us) := .cons rfl r1
  have hl : (Value.ref (hp.objs.size + 1) :: us).length = ps.length := by
    have e := r2.length
    rw [F1.len _ _ _ _ hq] at e
    exact e.symm
  have hus : us.length ≤ sizeLine := by
    rw [← Paired.length r1, sizeLine_eq]
    omega
  have hb1 := hb ⟨(hp.push (PySem.W.kdv_tup us)).push (PySem.HandSPX.excO C hp.objs.size), g, dr, tk, os⟩ (Value.ref (hp.objs.size + 1) :: us) I2.kIn (by rw [List.append_nil]; exact hl)
  rw [List.append_nil] at hb1
  refine wpAny_call (PySem.HandSPX.call_own F.excBase_ValueError (fun Y => PySem.HandSPX.refsVE_contains Y bm hbm) (I1.kIn _ _ hC) (PySem.W.looks_findIn I1.kIn iC) (fun self => PySem.W.bind_fn I1.kIn self tI) hus
    (codeAny_mono (F1.run _ X.stack _ _ ⟨Value.ref (hp.objs.size + 1) :: us, []⟩ (Value.ref (hp.objs.size + 1) :: us) _ _ (fun _ _ _ => False) (hr.make C us []) (I2.env0.make C us []) hb1 r2 hq) fun r s' hq' => ?_))
  cases r with
  | error er => exact hx pins σ _ _ er s' I2 hq'
  | ok fl =>
    cases fl with
    | ret u =>
      obtain ⟨v, H2, os2, bare2, un2, hok2, rv, ev, d, fs, ea, ed, hd1, q2⟩ := hq'
      subst ev
      obtain ⟨h2, g2, d2, t2, os'⟩ := s'
      obtain ⟨t0, G, J, kG, ge, hoe, na⟩ := mk_end0 (d2 := d2) (t2 := t2) I1 hsz kk un2 hok2 os2 bare2 ea ed hd1
      exact ⟨rv, _, _, _, ⟨G, g2, d2, t2, os'⟩, _, .ref C, some d, rfl, J, kG, ge, hoe, ⟨rfl, rfl, fun vs e => by cases e; rfl⟩, rfl, rfl, na, rfl, bare2, raises_own T.exC T.tyC, q2⟩
    | next => exact False.elim hq'
    | brk => exact False.elim hq'
    | cont => exact False.elim hq'
end
/-! ### calls within a try -/
section
variable {X : Cx} {CX : CXT} {k : Nat} {f C : Addr} {fd : FuncData} {ps : List Str} {sp : Sp} {E : L2.St → XK} {x m : Str} {p pos apos : Pos} {e o : Expr} {es : List Expr} {ta : TE} {t : TA}
theorem pe_methAt {pl : Sem Bool} (he : PE X o ta) (c : Cls X.K C) (hm : Meth X.K C m f) (F : FnOk X.prog X.w X.K X.mg X.base CX k f fd ps sp) (hr : Room k X.A) (hb : Binds X.K fd ps []) (hx : ∀ σ, PassesAt CX X σ (E σ)) (ha : PA X (e :: es) t)
    (hst : starEach (e :: es) X.env = (false, eval e X.env) :: starEach es X.env := by rfl) (hpl : (backTo pos (starEach es X.env)).any (·.1) = false := by rfl)
    (ht : eval (.Call (.Attribute o m apos) (e :: es) [] pos) X.env = (do
      let ov ← eval o X.env
      standAt apos.atName
      let (f, first) ← holding [ov] (getMethod ov m pl)
      callWith pos f first (backTo pos (starEach (e :: es) X.env)) (backToKw pos (keywordEach [] X.env))) := by rfl) :
    PE X (.Call (.Attribute o m apos) (e :: es) [] pos) (L2H.tMethH C m sp E ta t) := by
  refine ⟨fun pins s σ H Q I h => ?_⟩
  refine PySem.W.methodCall_KW (pl := pl) (thn (he.run pins s σ H _ I h) fun u s1 ⟨x, H1, I1, rx, a, dx, fs, ex, ea, l, q⟩ => ?_) ht
  subst ex
  obtain rfl : u = Value.ref a := rx
  refine getmeth_ok I1 ea c hm l ?_
  refine PySem.W.callWith_K (first := [.ref a]) (h₀ := X.base) I.ok.mod.kin hm.kp (thn (ha.run pos pins s1 σ H1 _ I1 q) fun us s2 ⟨vs, H2, I2, r, q2⟩ => ⟨I2.kIn, ?_⟩) hst hpl
  exact run_fnS (us := .ref a :: us) (vs := .ref a :: vs) F hr hb (hx σ) I2 (.cons rfl r) q2
theorem pe_methAt0 {pl : Sem Bool} (he : PE X o ta) (c : Cls X.K C) (hm : Meth X.K C m f) (F : FnOk X.prog X.w X.K X.mg X.base CX k f fd ps sp) (hr : Room k X.A) (hb : Binds X.K fd ps []) (hx : ∀ σ, PassesAt CX X σ (E σ))
    (ht : eval (.Call (.Attribute o m apos) [] [] pos) X.env = (do
      let ov ← eval o X.env
      standAt apos.atName
      let (f, first) ← holding [ov] (getMethod ov m pl)
      callWith pos f first (backTo pos (starEach [] X.env)) (backToKw pos (keywordEach [] X.env))) := by rfl) :
    PE X (.Call (.Attribute o m apos) [] [] pos) (L2H.tMethH C m sp E ta tNil) := by
  refine ⟨fun pins s σ H Q I h => ?_⟩
  refine PySem.W.methodCall_KW (pl := pl) (thn (he.run pins s σ H _ I h) fun u s1 ⟨x, H1, I1, rx, a, dx, fs, ex, ea, l, q⟩ => ?_) ht
  subst ex
  obtain rfl : u = Value.ref a := rx
  refine getmeth_ok I1 ea c hm l ?_
  exact PySem.W.callWith_K0 (first := [.ref a]) I1.kIn hm.kp (run_fnS (us := [.ref a]) (vs := [.ref a]) F hr hb (hx σ) I1 (.cons rfl .nil) q)
end
theorem pass0At {X : Cx} {E : L2.St → XK} : ∀ σ, PassesAt CX0 X σ (E σ) := fun _ _ _ _ _ _ _ h => h.elim
/-! ### asking the exception that is held -/
/-- what is known of a pinned exception -/
structure PinE (cls : Value) (d : Option Addr) (oe : Obj) : Prop where
  z : L2N.Zn cls d oe
  f : ∃ vs, oe.data = .fields vs
def rIsP (K : PySem.W.Frag) (a : Addr) (cls : Value) (d : Option Addr) : List V → Hp → VK → Prop := fun xs H Q => ∃ (D : Addr) (c : V) (cv : Value) (b : Bool), cls = .ref D ∧ ExK K D ∧ xs = [.ref a, c] ∧ ClsV c cv ∧ PySem.W.kitOne K (.ref D) cv = some b ∧ (∀ dd, d = some dd → ∃ fs, H dd = some (.xd fs)) ∧ Q (.bl b) H
theorem call_isP {X : Cx} {a : Addr} {oe : Obj} {cls : Value} {d : Option Addr} (hp : (a, oe) ∈ X.pn) (Z : PinE cls d oe) : CallR X (.builtin "isinstance") (rIsP X.K a cls d) := by
  intro pins s σ H xs us Q I r h
  obtain ⟨D, c, cv, b, rfl, C, rfl, hcv, e, hdd, q⟩ := h
  cases r with
  | cons rx rr =>
    cases rr with
    | cons rt rr =>
      cases rr
      cases rx
      have ec := hcv.eq rt
      subst ec
      obtain ⟨hget, _⟩ := I.pin (a, oe) (List.mem_append_left _ hp)
      obtain ⟨vs, hv⟩ := Z.f
      have hz := Z.z.zc
      obtain ⟨cdD, hcD, _⟩ := PySem.W.any_some C.hd
      cases d with
      | none =>
        have J : PySem.W.InstAt s.heap a oe D none := by
          obtain ⟨oc, od, oda, osl⟩ := oe
          obtain ⟨h1, h2⟩ := hz
          dsimp only at h1 h2 hv
          subst h1 h2 hv
          exact ⟨hget, rfl, rfl, trivial⟩
        exact PySem.W.kia_one (PySem.W.kitx_exc (by rw [hcD]; rfl) C.hg C.hk C.ox.exC C.ha C.hn C.ht C.hm) I.kIn J e (fun z => nomatch z) fun tk => ⟨.bl b, H, I.kept (t' := tk) fun _ _ z => z, rfl, q⟩
      | some dd =>
        obtain ⟨fs, hfs⟩ := hdd dd rfl
        have hx : ObjOk X.prog X.w H s.heap dd (.xd fs) := I.hok dd _ hfs
        obtain ⟨mA, hns, hr⟩ := hx
        obtain ⟨od, ho, hl⟩ := lookIn_ns hns
        have J : PySem.W.InstAt s.heap a oe D (some od) := ⟨hget, hz.1, by unfold PySem.W.notCls; rw [hv] <;> rfl, by rw [hz.2]; exact ho⟩
        exact PySem.W.kia_one (PySem.W.kitx_exc (by rw [hcD]; rfl) C.hg C.hk C.ox.exC C.ha C.hn C.ht C.hm) I.kIn J e (fun z => nomatch z) fun tk => ⟨.bl b, H, I.kept (t' := tk) fun _ _ z => z, rfl, q⟩
/-- field f of the exception held -/
def tXfP (K : PySem.W.Frag) (a : Addr) (cls : Value) (d : Option Addr) (f : Str) (te : TE) : TE := fun σ H Q => te σ H fun x H1 => x = .ref a ∧ ∃ (C dd : Addr) (fs : List (Str × V)) (v : V), cls = .ref C ∧ ExK K C ∧ PySem.W.findIn K (.ref C) f = some none ∧ d = some dd ∧ H1 dd = some (.xd fs) ∧ fs.lookup f = some v ∧ Q v H1
theorem pe_xfP {X : Cx} {a : Addr} {oe : Obj} {cls : Value} {d : Option Addr} {e : Expr} {te : TE} {pos : Pos} {n : Str} (hp : (a, oe) ∈ X.pn) (Z : PinE cls d oe) (he : PE X e te) (hb : attributeBase e n X.env (eval e X.env) = eval e X.env := by rfl) :
    PE X (.Attribute e n pos) (tXfP X.K a cls d n te) := by
  refine ⟨fun pins s σ H Q I h => ?_⟩
  refine attr_of hb (thn (he.run pins s σ H _ I h) fun u s1 hh => ?_)
  obtain ⟨x, H1, I1, rx, ex, C, dd, fs, v, ec, T, hno, ed, ea, l, q⟩ := hh
  subst ex
  obtain rfl : u = Value.ref a := rx
  subst ec
  subst ed
  have hz := Z.z.zc
  obtain ⟨ha, _⟩ := I1.pin (a, oe) (List.mem_append_left _ hp)
  obtain ⟨vs, hd⟩ := Z.f
  have hx : ObjOk X.prog X.w H1 s1.heap dd (.xd fs) := I1.hok dd _ ea
  obtain ⟨mA, hns, hr⟩ := hx
  obtain ⟨od, ho, hl⟩ := lookIn_ns hns
  obtain ⟨u, hu, ru⟩ := RelO.some_of (v := v) (o := mA n) (by rw [← l]; exact hr n)
  have J : PySem.W.InstAt s1.heap a oe C (some od) := ⟨ha, hz.1, by unfold PySem.W.notCls; rw [hd] <;> rfl, by rw [hz.2]; exact ho⟩
  exact HandSPX.exc_get I1.kIn J T.hg T.hk T.ox.exC (PySem.W.findObj_own T.hd hno rfl (by rw [hl, hu])) (handed_of ru) ⟨v, H1, I1.tok _, ru, q⟩
/-! ### defs called where an exception is handled, that may know it -/
abbrev SpP := Addr → Value → Option Addr → Sp
structure FnHP (P : Program) (w : World) (K : PySem.W.Frag) (mg : Str → Option Value) (base : Heap) (CX : CXT) (k : Nat) (f : Addr) (fd : FuncData) (ps : List Str) (sp : SpP) : Prop where
  len : ∀ a cls d vs H Q E, sp a cls d vs H Q E → vs.length = ps.length
  run : ∀ (A : Around) (outer : List Env) (s : Shared) (H : Hp) (args : Args) (us : List Value) (vs : List V) (Q : VK) (E : XK) (p : Addr × Obj) (cls : Value) (d : Option Addr), L2H.RoomH k A → L2H.Hot1 A p → PinE cls d p.2 → L2H.PinOk outer H s p → Env0 P w K mg base A outer s H → BindsTo s fd args (ps.zip us) → Vals vs us → sp p.1 cls d vs H Q E →
    codeAny (model P w) A (.call (.ref f) args) (CR CX outer P w H s Q E) s
theorem fn_ofHP {CX : CXT} {P : Program} {w : World} {K : PySem.W.Frag} {mg : Str → Option Value} {base : Heap} {k : Nat} {f : Addr} {name qual : Str} {params : Arguments} {body : List Stmt} {scope : Scope} {dV kV doc pm cdv ct oc : Value} {an od : Option Addr}
    {osl : Array (Option Value)} {N ps : List Str} {sp : SpP} (lk : K.lookup f = some ⟨oc, od, .func (PySem.W.fnOf name qual params body scope dV kV doc pm an cdv ct), osl⟩) (hcd : PySem.W.codeIn K cdv qual = true) (S : FnScope N ps scope)
    (len : ∀ a cls d vs H Q E, sp a cls d vs H Q E → vs.length = ps.length)
    (hbody : ∀ (A : Around) (outer : List Env) (s : Shared) (H : Hp) (vs : List V) (Q : VK) (E : XK) (p : Addr × Obj) (cls : Value) (d : Option Addr), L2H.Hot1 A p → PinE cls d p.2 → L2H.RoomH k (A.deeper (envOfC qual scope s.heap.objs.size f cdv)) → sp p.1 cls d vs H Q E →
      ∃ t, PSs (L2H.cxH CX P w K mg base N qual scope f cdv A outer s H E p) body t ∧ t { nx := fun _ H' => Q .non H', rt := Q } (L2.start N vs) H) :
    FnHP P w K mg base CX (k + 1) f (PySem.W.fnOf name qual params body scope dV kV doc pm an cdv ct) ps sp := by
  refine ⟨len, fun A outer s H args us vs Q E p cls d hr hot Z hpin e0 hb r hsp => ?_⟩
  have hl := len _ _ _ _ _ _ _ hsp
  have KX : K.In s.heap := e0.mod.kin.keeps fun b o e => (e0.bs b o e).1
  have lim : s.heap.NoLimit := e0.mod.nolimit.keeps fun b o e => (e0.bs b o e).1
  have hkind : ∀ y ∈ ps.zip us, scope.names.lookup y.1 = some .local ∨ (scope.names.lookup y.1 = some .cell ∧ ((cellsFrom (s.heap.objs.size + 1) scope.names []).lookup y.1).isSome = true) := fun ⟨n, v⟩ hy => by
    rcases S.par n (List.of_mem_zip hy).1 with q | q
    · exact .inl q
    · exact .inr ⟨q, PySem.W.cellsFrom_some _ _ _ (.inl q)⟩
  refine codeAny_call_function hr.depth (KX _ _ lk) rfl S.co S.gen rfl (PySem.W.codeRec_of KX hcd) (hb _ _ _ _ ?_)
  refine wpAny_newFunctionEnv_cells S.kind hkind fun env he s1 x => ?_
  subst he
  refine ⟨lim.keeps x.toInCall.keep, codeAny_func ?_⟩
  obtain ⟨t, ht, hq⟩ := hbody A outer s H vs Q E p cls d hot Z (hr.deeper _) hsp
  have I : Inv (L2H.cxH CX P w K mg base N qual scope f cdv A outer s H E p) [] (L2.start N vs) H s1 := L2H.inv_startH S hpin e0 hl r x
  refine wpAny_mono (ht.run [] s1 (L2.start N vs) H _ I hq) (fun fl s' hs => ?_) fun e s' hs => hs
  have fin : ∀ {σ' : L2.St} {H' : Hp} {v : V} {u : Value}, Inv (L2H.cxH CX P w K mg base N qual scope f cdv A outer s H E p) [] σ' H' s' → RelV v u → Q v H' → CE outer P w H s Q u s' :=
    fun {σ' H' v u} J rv q => ⟨v, H', J.os, J.bare, J.base, J.hok, rv, q⟩
  cases fl with
  | ret u =>
    obtain ⟨v, σ', H', J, rv, q⟩ := hs
    exact fin J rv q
  | next =>
    obtain ⟨σ', H', J, q⟩ := hs
    exact fin (v := V.non) (u := Value.none) J rfl q
  | brk =>
    obtain ⟨_, _, _, q⟩ := hs
    exact False.elim q
  | cont =>
    obtain ⟨_, _, _, q⟩ := hs
    exact False.elim q
theorem okHP {P : Program} {w : World} {K : PySem.W.Frag} {mg : Str → Option Value} {base : Heap} {x qual : Str} {st : Stmt} {f : Addr} {fd : FuncData} {N ps : List Str} {k : Nat} {sp : SpP} {CX : CXT} (F : Fun K x qual st f fd) (S : FnScope N ps (defScope st)) (len : ∀ a cls d vs H Q E, sp a cls d vs H Q E → vs.length = ps.length)
    (hbody : ∀ (cdv : Value) (A : Around) (outer : List Env) (s : Shared) (H : Hp) (vs : List V) (Q : VK) (E : XK) (p : Addr × Obj) (cls : Value) (d : Option Addr), L2H.Hot1 A p → PinE cls d p.2 → L2H.RoomH k (A.deeper (envOfC qual (defScope st) s.heap.objs.size f cdv)) → sp p.1 cls d vs H Q E →
      ∃ t, PSs (L2H.cxH CX P w K mg base N qual (defScope st) f cdv A outer s H E p) (defBody st) t ∧ t { nx := fun _ H' => Q .non H', rt := Q } (L2.start N vs) H) : FnHP P w K mg base CX (k + 1) f fd ps sp := by
  obtain ⟨oc, od, kV, doc, pm, an, cdv, ct, osl, rfl, lk, hcd⟩ := F.ex
  exact fn_ofHP lk hcd S len fun A outer s H vs Q E p cls d hot Z hr hsp => hbody cdv A outer s H vs Q E p cls d hot Z hr hsp
section
variable {X : Cx} {CX : CXT} {k : Nat} {f C : Addr} {fd : FuncData} {ps : List Str} {sp : SpP} {E : L2.St → XK} {x m : Str} {q pos apos : Pos} {e o : Expr} {es : List Expr} {ta : TE} {t : TA} {p : Addr × Obj} {cls : Value} {d : Option Addr}
theorem run_fnHP {pins : List (Addr × Obj)} {σ : L2.St} {H : Hp} {s : Shared} {Q : VK} {us : List Value} {vs : List V} (F : FnHP X.prog X.w X.K X.mg X.base CX k f fd ps sp) (hr : L2H.RoomH k X.A) (hot : L2H.Hot1 X.A p) (Z : PinE cls d p.2) (hp : p ∈ X.pn) (hb : Binds X.K fd ps []) (hx : PassesAt CX X σ (E σ))
    (I : Inv X pins σ H s) (r : Vals vs us) (h : sp p.1 cls d vs H Q (E σ)) : wpAny (model X.prog X.w) X.A (call (.ref f) us) (EP X pins σ Q) X.xe s := by
  have hl : us.length = ps.length := by rw [← r.length]; exact F.len _ _ _ _ _ _ _ h
  have b := hb s us I.kIn (by rw [List.append_nil]; exact hl)
  rw [List.append_nil] at b
  have P1 := I.pin p (List.mem_append_left _ hp)
  have hpin : L2H.PinOk X.stack H s p := ⟨P1.1, P1.2.1, fun hm => (List.mem_cons.mp (I.stkSub p.1 hm)).elim P1.2.2.1 P1.2.2.2.1, P1.2.2.2.2⟩
  refine wpAny_call (codeAny_mono (F.run X.A X.stack s H ⟨us, []⟩ us vs Q (E σ) p cls d hr hot Z hpin I.env0 b r h) fun r s' hq => ?_)
  cases r with
  | error e => exact hx pins H s e s' I hq
  | ok fl =>
    cases fl with
    | ret u => exact I.after hq
    | next => exact False.elim hq
    | brk => exact False.elim hq
    | cont => exact False.elim hq
theorem pe_callHP {a : Addr} {oe : Obj} (F : FnHP X.prog X.w X.K X.mg X.base CX k f fd ps sp) (hr : L2H.RoomH k X.A) (hot : L2H.Hot1 X.A (a, oe)) (Z : PinE cls d oe) (hp : (a, oe) ∈ X.pn) (hg : Gl X x) (hm : X.mg x = some (.ref f)) (hk : PySem.W.keepIn X.K (.ref f) = true) (hb : Binds X.K fd ps []) (hx : ∀ σ, PassesAt CX X σ (E σ))
    (ha : PA X (e :: es) t) (hdb : (x == ("__debug__" : Str)) = false := by decide) (he : starEach (e :: es) X.env = (false, eval e X.env) :: starEach es X.env := by rfl) (hpl : (backTo pos (starEach es X.env)).any (·.1) = false := by rfl) :
    PE X (.Call (.Name x q) (e :: es) [] pos) (tCallS (sp a cls d) E t) := by
  refine ⟨fun pins s σ H Q I h => ?_⟩
  refine wpAny_Call_Name_kw (ld_glob I hg hm ?_ hdb)
  refine PySem.W.callWith_K (h₀ := X.base) I.ok.mod.kin hk (thn (ha.run pos pins s σ H _ I h) fun us s1 ⟨vs, H1, I1, r, q⟩ => ⟨I1.kIn, ?_⟩) he hpl
  exact run_fnHP (p := (a, oe)) F hr hot Z hp hb (hx σ) I1 r q
end
theorem suite_hot {X : Cx} {a : Addr} {oe : Obj} {cls : Value} {d : Option Addr} {pn : List (Addr × Obj)} (Z : PinE cls d oe) : L2H.Hot1 (X.suite a ((a, oe) :: pn)).A (a, oe) := by
  obtain ⟨vs, hv⟩ := Z.f
  exact ⟨rfl, vs, hv, Z.z.2.2 vs hv⟩
theorem huH_of {A : Around} {k : Nat} (hr : L2H.RoomH k A) : A.units + 64 < cLine := by have := hr.un; omega
theorem hu1H_of {A : Around} {k : Nat} (hr : L2H.RoomH k A) : A.units + 1 < cLine := by have := hr.un; omega
theorem roomS {X : Cx} {k : Nat} {a : Addr} {pn : List (Addr × Obj)} (hr : Room k X.A) : L2H.RoomH k (X.suite a pn).A := ⟨hr.dp, hr.un⟩
theorem takes0N {X : Cx} : L2N.Takes X (fun _ _ _ _ => False) := fun _ _ x => by
  obtain ⟨_, _, _, _, _, _, _, _, _, _, _, _, _, _, _, _, z⟩ := x
  exact z.elim
/-! ### an own exception with one field -/
def StrOk : V → Prop
  | .int i => i.natAbs.log2 < 1920
  | .str _ => True
  | _ => False
def sp_exc1 (C : Addr) (f : Str) : Sp := fun vs H Q _ => ∃ (a : Addr) (x : V), vs = [.ref a, x] ∧ StrOk x ∧ H a = some (exo a C none) ∧ ∀ dx, H dx = none → dx ≠ a → Q .non (L2.upd (L2.upd H dx (exd dx [(f, x)])) a (exo a C (some dx)))
theorem exc1_go {x : V} {H : Hp} {Q : VK} (hx : StrOk x) (h : ∀ z, Q (.str z) H) : rStrU [x] H Q := by
  cases x with
  | int i => exact ⟨hx, h _⟩
  | str z => exact h _
  | _ => exact hx.elim
theorem exc1_mk {C : Addr} {f : Str} {x : V} {H : Hp} {Q : XK} {E : XK} (hx : StrOk x) (h : ∀ d, H d = none → Q (.ref C) (some d) (L2.upd H d (.xd [(f, x)]))) :
    [x].length ≤ 1000 ∧ ∀ a, H a = none → sp_exc1 C f (.ref a :: ([x] ++ [])) (L2.upd H a (exo a C none))
      (fun v H2 => v = .non ∧ ∃ (d : Addr) (fs : List (Str × V)), H2 a = some (exo a C (some d)) ∧ H2 d = some (exd d fs) ∧ H d = none ∧ Q (.ref C) (some d) (L2.upd (del H2 a) d (.xd fs))) E := by
  refine ⟨(by show 1 ≤ 1000; decide), fun a ha => ⟨a, x, rfl, hx, upd_same, fun dx h1 h2 => ⟨rfl, dx, _, upd_same, by rw [upd_ne h2]; exact upd_same, by rw [upd_ne h2] at h1; exact h1, ?_⟩⟩⟩
  have e : L2.upd (del (L2.upd (L2.upd (L2.upd H a (exo a C none)) dx (exd dx [(f, x)])) a (exo a C (some dx))) a) dx (.xd [(f, x)]) = L2.upd H dx (.xd [(f, x)]) := by
    funext b
    by_cases hb : b = dx
    · subst hb; rw [upd_same, upd_same]
    · rw [upd_ne hb, upd_ne hb]
      by_cases hba : b = a
      · subst hba; rw [del_same, ha]
      · rw [del_ne hba, upd_ne hba, upd_ne hb, upd_ne hba]
  rw [e]
  exact h dx (by rw [upd_ne h2] at h1; exact h1)
/-! ### rules with the law's own K, for a try's body and suite -/
section
variable {X : Cx} {K : PySem.W.Frag}
theorem pe_bmK {T name id : String} {r : V → List V → Hp → VK → Prop} {o e : Expr} {es : List Expr} {apos cpos : Pos} {to : TE} {t : TA} (eK : X.K = K) (pa : PlainAttrs T) (slot : Slot T name id) (hty : typeOf (.builtin id) = pure (.type "method_descriptor")) (hm : MtR X id r) (ho : PE X o to) (ha : PA X (e :: es) t)
    (hbase : attributeBase o name X.env (eval o X.env) = eval o X.env := by rfl)
    (hfew : ((backTo cpos (starEach (e :: es) X.env)).all (fun x => !x.1) && (backToKw cpos (keywordEach [] X.env)).all (fun x => x.1.isSome)
      && decide ((e :: es).length + ([] : List Keyword).length + (if ([] : List Keyword).isEmpty then 0 else 1) < 30)) = true := by rfl)
    (hline : (apos.endLine == cpos.line) = true := by rfl) (hs : starEach (e :: es) X.env = (false, eval e X.env) :: starEach es X.env := by rfl) (hplain : (backTo cpos (starEach es X.env)).any (·.1) = false := by rfl) :
    PE X (.Call (.Attribute o name apos) (e :: es) [] cpos) (tBM K T r to t) := by subst eK; exact pe_bm pa slot hty hm ho ha hbase hfew hline hs hplain
theorem call_isiK (eK : X.K = K) : CallR X (.builtin "isinstance") (rIsi K) := by subst eK; exact call_isi
theorem call_isPK {a : Addr} {oe : Obj} {cls : Value} {d : Option Addr} (eK : X.K = K) (hp : (a, oe) ∈ X.pn) (Z : PinE cls d oe) : CallR X (.builtin "isinstance") (rIsP K a cls d) := by subst eK; exact call_isP hp Z
theorem pe_xfPK {a : Addr} {oe : Obj} {cls : Value} {d : Option Addr} {e : Expr} {te : TE} {pos : Pos} {n : Str} (eK : X.K = K) (hp : (a, oe) ∈ X.pn) (Z : PinE cls d oe) (he : PE X e te) (hb : attributeBase e n X.env (eval e X.env) = eval e X.env := by rfl) :
    PE X (.Attribute e n pos) (tXfP K a cls d n te) := by subst eK; exact pe_xfP hp Z he hb
theorem pe_notTK {a : Expr} {ta : TE} {pos : Pos} (eK : X.K = K) (ha : PE X a ta) : PE X (.UnaryOp .Not a pos) (tNotT K ta) := by subst eK; exact pe_notT ha
end
def tTryAs (K : PySem.W.Frag) (c : Value) (i : Nat) (ts : Addr → Value → Option Addr → TS) (Wout : WX) (tb : WX → TS) : TS := fun D σ H => tb (wAs K c i ts Wout D) D σ H
theorem ps_tryAs {X : Cx} {K : PySem.W.Frag} {x n : Str} {c : Value} {i : Nat} {body suite : List Stmt} {b₀ : Stmt} {np pos pos' : Pos} {tb : WX → TS} {ts : Addr → Value → Option Addr → TS} {Wout : WX} (eK : X.K = K)
    (hs : X.stack = X.env :: X.outer) (hf : X.env.frame = some X.env.locals) (hN : X.N.Nodup) (hi : X.N[i]? = some n) (hln : X.env.kindOf n = some .local) (hc : Names X x c) (tk : L2N.Takes X Wout)
    (hb : ∀ (W : WX) (pn : List (Addr × Obj)) (xe : Value → Shared → Prop), L2N.Takes (X.tr pn xe) W → PassesOwn (model X.prog X.w) X.A X.env xe → PSs (X.tr pn xe) body (tb W))
    (hsu : ∀ (a : Addr) (oe : Obj) (cls : Value) (d : Option Addr) (pn : List (Addr × Obj)), L2N.Zn cls d oe → (∃ vs, oe.data = .fields vs) → PSs (X.suite a ((a, oe) :: pn)) (b₀ :: suite) (ts a cls d)) :
    PS X (.Try body [.ExceptHandler (some (.Name x np)) (some n) (b₀ :: suite) pos'] [] [] pos) (tTryAs K c i ts Wout tb) := by subst eK; exact L2N.ps_try_as hs hf hN hi hln hc tk hb hsu
theorem passF {X : Cx} : Passes (L2N.CX X.prog X.w) X (fun _ _ _ => False) := fun _ _ _ _ _ _ _ c => by
  obtain ⟨_, _, _, _, _, _, _, _, _, _, _, _, h⟩ := c
  exact h.elim
end LX
namespace LX
open PySem PySem.Spec PyProof.Rows L2 NdefX
def top (i : Nat) : Stmt := PySem.Challenge.pw_saggar_k02_store_is_a_list.main.body.getD i (.Pass ⟨0, 0, 0, 0⟩)
abbrev s_NoRoom___init__ : Stmt := inClass (top 2) 0
abbrev N_NoRoom___init__ : List Str := ["self", "need"]
theorem ns_NoRoom___init__ : NScope ["self", "need", "__class__"] ["self", "need"] ["__class__"] (defScope s_NoRoom___init__) := nscope_by (by decide +kernel)
abbrev s_NoNumber___init__ : Stmt := inClass (top 3) 0
abbrev N_NoNumber___init__ : List Str := ["self", "limit"]
theorem ns_NoNumber___init__ : NScope ["self", "limit", "__class__"] ["self", "limit"] ["__class__"] (defScope s_NoNumber___init__) := nscope_by (by decide +kernel)
abbrev s_Store___init__ : Stmt := inClass (top 7) 0
abbrev N_Store___init__ : List Str := ["self", "room", "entries"]
theorem sc_Store___init__ : FnScope N_Store___init__ ["self", "room", "entries"] (defScope s_Store___init__) := ⟨rfl, rfl, rfl, by decide +kernel, rfl, by decide +kernel, by decide +kernel⟩
abbrev s_Store_used : Stmt := inClass (top 7) 1
abbrev N_Store_used : List Str := ["self"]
theorem sc_Store_used : FnScope N_Store_used ["self"] (defScope s_Store_used) := ⟨rfl, rfl, rfl, by decide +kernel, rfl, by decide +kernel, by decide +kernel⟩
abbrev s_Store_exists : Stmt := inClass (top 7) 2
abbrev N_Store_exists : List Str := ["self", "number"]
theorem sc_Store_exists : FnScope N_Store_exists ["self", "number"] (defScope s_Store_exists) := ⟨rfl, rfl, rfl, by decide +kernel, rfl, by decide +kernel, by decide +kernel⟩
abbrev s_Store_numbers : Stmt := inClass (top 7) 3
abbrev N_Store_numbers : List Str := ["self"]
theorem sc_Store_numbers : FnScope N_Store_numbers ["self"] (defScope s_Store_numbers) := ⟨rfl, rfl, rfl, by decide +kernel, rfl, by decide +kernel, by decide +kernel⟩
abbrev s_Store_free_number : Stmt := inClass (top 7) 4
abbrev N_Store_free_number : List Str := ["self"]
theorem sc_Store_free_number : FnScope N_Store_free_number ["self"] (defScope s_Store_free_number) := ⟨rfl, rfl, rfl, by decide +kernel, rfl, by decide +kernel, by decide +kernel⟩
abbrev s_Store_allocate : Stmt := inClass (top 7) 5
abbrev N_Store_allocate : List Str := ["self", "kind", "size", "number"]
theorem sc_Store_allocate : FnScope N_Store_allocate ["self", "kind", "size"] (defScope s_Store_allocate) := ⟨rfl, rfl, rfl, by decide +kernel, rfl, by decide +kernel, by decide +kernel⟩
abbrev s_Store_size : Stmt := inClass (top 7) 6
abbrev N_Store_size : List Str := ["self", "number"]
theorem sc_Store_size : FnScope N_Store_size ["self", "number"] (defScope s_Store_size) := ⟨rfl, rfl, rfl, by decide +kernel, rfl, by decide +kernel, by decide +kernel⟩
abbrev s_Store_kind : Stmt := inClass (top 7) 7
abbrev N_Store_kind : List Str := ["self", "number"]
theorem sc_Store_kind : FnScope N_Store_kind ["self", "number"] (defScope s_Store_kind) := ⟨rfl, rfl, rfl, by decide +kernel, rfl, by decide +kernel, by decide +kernel⟩
abbrev s_Store_set_kind : Stmt := inClass (top 7) 8
abbrev N_Store_set_kind : List Str := ["self", "number", "word"]
theorem sc_Store_set_kind : FnScope N_Store_set_kind ["self", "number", "word"] (defScope s_Store_set_kind) := ⟨rfl, rfl, rfl, by decide +kernel, rfl, by decide +kernel, by decide +kernel⟩
abbrev s_Store_get : Stmt := inClass (top 7) 9
abbrev N_Store_get : List Str := ["self", "number", "at"]
theorem sc_Store_get : FnScope N_Store_get ["self", "number", "at"] (defScope s_Store_get) := ⟨rfl, rfl, rfl, by decide +kernel, rfl, by decide +kernel, by decide +kernel⟩
abbrev s_Store_put : Stmt := inClass (top 7) 10
abbrev N_Store_put : List Str := ["self", "number", "at", "word"]
theorem sc_Store_put : FnScope N_Store_put ["self", "number", "at", "word"] (defScope s_Store_put) := ⟨rfl, rfl, rfl, by decide +kernel, rfl, by decide +kernel, by decide +kernel⟩
abbrev s_Store_slots : Stmt := inClass (top 7) 11
abbrev N_Store_slots : List Str := ["self", "number", "place"]
theorem sc_Store_slots : FnScope N_Store_slots ["self", "number"] (defScope s_Store_slots) := ⟨rfl, rfl, rfl, by decide +kernel, rfl, by decide +kernel, by decide +kernel⟩
abbrev s_Store_drop : Stmt := inClass (top 7) 12
abbrev N_Store_drop : List Str := ["self", "number"]
theorem sc_Store_drop : FnScope N_Store_drop ["self", "number"] (defScope s_Store_drop) := ⟨rfl, rfl, rfl, by decide +kernel, rfl, by decide +kernel, by decide +kernel⟩
abbrev s_Store_close_up : Stmt := inClass (top 7) 13
abbrev N_Store_close_up : List Str := ["self", "words", "places", "old", "number", "place"]
theorem sc_Store_close_up : FnScope N_Store_close_up ["self"] (defScope s_Store_close_up) := ⟨rfl, rfl, rfl, by decide +kernel, rfl, by decide +kernel, by decide +kernel⟩
abbrev s_Store_snapshot : Stmt := inClass (top 7) 14
abbrev N_Store_snapshot : List Str := ["self"]
theorem sc_Store_snapshot : FnScope N_Store_snapshot ["self"] (defScope s_Store_snapshot) := ⟨rfl, rfl, rfl, by decide +kernel, rfl, by decide +kernel, by decide +kernel⟩
abbrev s_Store_restore : Stmt := inClass (top 7) 15
abbrev N_Store_restore : List Str := ["self", "snapshot", "words", "places"]
theorem sc_Store_restore : FnScope N_Store_restore ["self", "snapshot"] (defScope s_Store_restore) := ⟨rfl, rfl, rfl, by decide +kernel, rfl, by decide +kernel, by decide +kernel⟩
abbrev s_Store_exchange : Stmt := inClass (top 7) 16
abbrev N_Store_exchange : List Str := ["self", "first", "second", "one", "other"]
theorem sc_Store_exchange : FnScope N_Store_exchange ["self", "first", "second"] (defScope s_Store_exchange) := ⟨rfl, rfl, rfl, by decide +kernel, rfl, by decide +kernel, by decide +kernel⟩
abbrev s__law_number : Stmt := top 9
abbrev N__law_number : List Str := ["_law_cell", "_law_k", "_law_mixed"]
theorem sc__law_number : FnScope N__law_number ["_law_cell", "_law_k"] (defScope s__law_number) := ⟨rfl, rfl, rfl, by decide +kernel, rfl, by decide +kernel, by decide +kernel⟩
abbrev s__law_deeds : Stmt := top 10
abbrev N__law_deeds : List Str := ["_law_cell", "_law_k"]
theorem sc__law_deeds : FnScope N__law_deeds ["_law_cell", "_law_k"] (defScope s__law_deeds) := ⟨rfl, rfl, rfl, by decide +kernel, rfl, by decide +kernel, by decide +kernel⟩
abbrev s__law_word : Stmt := top 11
abbrev N__law_word : List Str := ["_law_x", "_law_rest"]
theorem sc__law_word : FnScope N__law_word ["_law_x"] (defScope s__law_word) := ⟨rfl, rfl, rfl, by decide +kernel, rfl, by decide +kernel, by decide +kernel⟩
abbrev s__law_is : Stmt := top 12
abbrev N__law_is : List Str := ["_law_actual", "_law_due"]
theorem sc__law_is : FnScope N__law_is ["_law_actual", "_law_due"] (defScope s__law_is) := ⟨rfl, rfl, rfl, by decide +kernel, rfl, by decide +kernel, by decide +kernel⟩
abbrev s__law_same : Stmt := top 13
abbrev N__law_same : List Str := ["_law_actual", "_law_due", "_law_k"]
theorem sc__law_same : FnScope N__law_same ["_law_actual", "_law_due"] (defScope s__law_same) := ⟨rfl, rfl, rfl, by decide +kernel, rfl, by decide +kernel, by decide +kernel⟩
abbrev s__law_flat : Stmt := top 14
abbrev N__law_flat : List Str := ["_law_row", "_law_flat_here", "_law_one"]
theorem sc__law_flat : FnScope N__law_flat ["_law_row"] (defScope s__law_flat) := ⟨rfl, rfl, rfl, by decide +kernel, rfl, by decide +kernel, by decide +kernel⟩
abbrev s__law_living : Stmt := top 15
abbrev N__law_living : List Str := ["_law_row", "_law_k"]
theorem sc__law_living : FnScope N__law_living ["_law_row"] (defScope s__law_living) := ⟨rfl, rfl, rfl, by decide +kernel, rfl, by decide +kernel, by decide +kernel⟩
abbrev s__law_free : Stmt := top 16
abbrev N__law_free : List Str := ["_law_row", "_law_taken", "_law_one", "_law_number_here"]
theorem sc__law_free : FnScope N__law_free ["_law_row"] (defScope s__law_free) := ⟨rfl, rfl, rfl, by decide +kernel, rfl, by decide +kernel, by decide +kernel⟩
abbrev s__law_copy : Stmt := top 17
abbrev N__law_copy : List Str := ["_law_row", "_law_one"]
theorem sc__law_copy : FnScope N__law_copy ["_law_row"] (defScope s__law_copy) := ⟨rfl, rfl, rfl, by decide +kernel, rfl, by decide +kernel, by decide +kernel⟩
abbrev s__law_allocated : Stmt := top 18
abbrev N__law_allocated : List Str := ["_law_store", "_law_row", "_law_limits", "_law_kind", "_law_size", "_law_free_here", "_law_need", "_law_due", "e", "_law_told"]
theorem sc__law_allocated : FnScope N__law_allocated ["_law_store", "_law_row", "_law_limits", "_law_kind", "_law_size"] (defScope s__law_allocated) := ⟨rfl, rfl, rfl, by decide +kernel, rfl, by decide +kernel, by decide +kernel⟩
abbrev s__law_changed : Stmt := top 19
abbrev N__law_changed : List Str := ["_law_store", "_law_row", "_law_taken", "_law_deed_here", "_law_x", "_law_rest", "_law_kept", "_law_one", "_law_pick", "_law_living_here", "_law_other", "_law_at", "_law_number_here"]
theorem sc__law_changed : FnScope N__law_changed ["_law_store", "_law_row", "_law_taken", "_law_deed_here", "_law_x"] (defScope s__law_changed) := ⟨rfl, rfl, rfl, by decide +kernel, rfl, by decide +kernel, by decide +kernel⟩
abbrev s__law_agrees : Stmt := top 20
abbrev N__law_agrees : List Str := ["_law_store", "_law_row", "_law_entries", "_law_x", "_law_flat_here", "_law_living_here", "_law_k", "_law_free_here", "e", "_law_one", "_law_number_here", "_law_contents", "_law_at"]
theorem sc__law_agrees : FnScope N__law_agrees ["_law_store", "_law_row", "_law_entries", "_law_x"] (defScope s__law_agrees) := ⟨rfl, rfl, rfl, by decide +kernel, rfl, by decide +kernel, by decide +kernel⟩
abbrev s__law_deed : Stmt := top 21
abbrev N__law_deed : List Str := ["_law_store", "_law_row", "_law_taken", "_law_limits", "_law_x", "_law_size"]
theorem sc__law_deed : FnScope N__law_deed ["_law_store", "_law_row", "_law_taken", "_law_limits", "_law_x"] (defScope s__law_deed) := ⟨rfl, rfl, rfl, by decide +kernel, rfl, by decide +kernel, by decide +kernel⟩
abbrev s_law : Stmt := top 22
abbrev N_law : List Str := ["_law_script", "_law_cells", "_law_cell", "_law_room", "_law_entries", "_law_store", "_law_row", "_law_taken", "_law_k", "_law_x"]
theorem sc_law : FnScope N_law ["_law_script"] (defScope s_law) := ⟨rfl, rfl, rfl, by decide +kernel, rfl, by decide +kernel, by decide +kernel⟩
structure Wd (P : Program) (K : PySem.W.Frag) (mg : Str → Option Value) where
  n_bool : mg "bool" = none
  n_dict : mg "dict" = none
  n_int : mg "int" = none
  n_isinstance : mg "isinstance" = none
  n_len : mg "len" = none
  n_list : mg "list" = none
  n_min : mg "min" = none
  n_range : mg "range" = none
  n_sorted : mg "sorted" = none
  n_str : mg "str" = none
  t_NIL : Tok
  g_NIL : mg "NIL" = some (.int (0) t_NIL)
  t_HEADER : Tok
  g_HEADER : mg "HEADER" = some (.int (3) t_HEADER)
  c_SaggarError : Addr
  g_SaggarError : mg "SaggarError" = some (.ref c_SaggarError)
  c_NoRoom : Addr
  g_NoRoom : mg "NoRoom" = some (.ref c_NoRoom)
  c_NoNumber : Addr
  g_NoNumber : mg "NoNumber" = some (.ref c_NoNumber)
  c_Store : Addr
  g_Store : mg "Store" = some (.ref c_Store)
  C_Store : Cls K c_Store
  na_Store_room : NoAttr K c_Store "room"
  na_Store_entries : NoAttr K c_Store "entries"
  na_Store_words : NoAttr K c_Store "words"
  na_Store__places : NoAttr K c_Store "_places"
  na_Store__least : NoAttr K c_Store "_least"
  f_NoRoom___init__ : Addr
  fd_NoRoom___init__ : FuncData
  X_NoRoom : OexC K c_NoRoom
  i_NoRoom : PySem.W.findIn K (.ref c_NoRoom) "__init__" = some (some (.ref f_NoRoom___init__)) ∧ PySem.W.typeIn K (.ref f_NoRoom___init__) = some (.type "function")
  cc_NoRoom : Addr
  cda_NoRoom : Addr
  S_NoRoom : SupTxt P K mg c_NoRoom cda_NoRoom cc_NoRoom (defScope s_NoRoom___init__)
  L_NoRoom : ∃ oc od kV dc pm an ct osl, K.lookup f_NoRoom___init__ = some ⟨oc, od, .func fd_NoRoom___init__, osl⟩ ∧ fd_NoRoom___init__ = PySem.W.fnX "__init__" "NoRoom.__init__" (defArgs s_NoRoom___init__) (defBody s_NoRoom___init__) (defScope s_NoRoom___init__) [("__class__", cc_NoRoom)] .none kV dc pm an (.ref cda_NoRoom) ct ∧ PySem.W.codeIn K (.ref cda_NoRoom) "NoRoom.__init__" = true
  E_NoRoom : ExK K c_NoRoom
  xn_NoRoom_need : PySem.W.findIn K (.ref c_NoRoom) "need" = some none
  b_NoRoom___init__ : Binds K fd_NoRoom___init__ ["self", "need"] []
  f_NoNumber___init__ : Addr
  fd_NoNumber___init__ : FuncData
  X_NoNumber : OexC K c_NoNumber
  i_NoNumber : PySem.W.findIn K (.ref c_NoNumber) "__init__" = some (some (.ref f_NoNumber___init__)) ∧ PySem.W.typeIn K (.ref f_NoNumber___init__) = some (.type "function")
  cc_NoNumber : Addr
  cda_NoNumber : Addr
  S_NoNumber : SupTxt P K mg c_NoNumber cda_NoNumber cc_NoNumber (defScope s_NoNumber___init__)
  L_NoNumber : ∃ oc od kV dc pm an ct osl, K.lookup f_NoNumber___init__ = some ⟨oc, od, .func fd_NoNumber___init__, osl⟩ ∧ fd_NoNumber___init__ = PySem.W.fnX "__init__" "NoNumber.__init__" (defArgs s_NoNumber___init__) (defBody s_NoNumber___init__) (defScope s_NoNumber___init__) [("__class__", cc_NoNumber)] .none kV dc pm an (.ref cda_NoNumber) ct ∧ PySem.W.codeIn K (.ref cda_NoNumber) "NoNumber.__init__" = true
  E_NoNumber : ExK K c_NoNumber
  xn_NoNumber_limit : PySem.W.findIn K (.ref c_NoNumber) "limit" = some none
  b_NoNumber___init__ : Binds K fd_NoNumber___init__ ["self", "limit"] []
  f_Store___init__ : Addr
  fd_Store___init__ : FuncData
  F_Store___init__ : Fun K "__init__" "Store.__init__" s_Store___init__ f_Store___init__ fd_Store___init__
  M_Store : Mk K c_Store f_Store___init__
  b_Store___init__ : Binds K fd_Store___init__ ["self", "room", "entries"] []
  f_Store_used : Addr
  fd_Store_used : FuncData
  F_Store_used : Fun K "used" "Store.used" s_Store_used f_Store_used fd_Store_used
  m_Store_used : Meth K c_Store "used" f_Store_used
  b_Store_used : Binds K fd_Store_used ["self"] []
  f_Store_exists : Addr
  fd_Store_exists : FuncData
  F_Store_exists : Fun K "exists" "Store.exists" s_Store_exists f_Store_exists fd_Store_exists
  m_Store_exists : Meth K c_Store "exists" f_Store_exists
  b_Store_exists : Binds K fd_Store_exists ["self", "number"] []
  f_Store_numbers : Addr
  fd_Store_numbers : FuncData
  F_Store_numbers : Fun K "numbers" "Store.numbers" s_Store_numbers f_Store_numbers fd_Store_numbers
  m_Store_numbers : Meth K c_Store "numbers" f_Store_numbers
  b_Store_numbers : Binds K fd_Store_numbers ["self"] []
  f_Store_free_number : Addr
  fd_Store_free_number : FuncData
  F_Store_free_number : Fun K "free_number" "Store.free_number" s_Store_free_number f_Store_free_number fd_Store_free_number
  m_Store_free_number : Meth K c_Store "free_number" f_Store_free_number
  b_Store_free_number : Binds K fd_Store_free_number ["self"] []
  f_Store_allocate : Addr
  fd_Store_allocate : FuncData
  F_Store_allocate : Fun K "allocate" "Store.allocate" s_Store_allocate f_Store_allocate fd_Store_allocate
  m_Store_allocate : Meth K c_Store "allocate" f_Store_allocate
  b_Store_allocate : Binds K fd_Store_allocate ["self", "kind", "size"] []
  f_Store_size : Addr
  fd_Store_size : FuncData
  F_Store_size : Fun K "size" "Store.size" s_Store_size f_Store_size fd_Store_size
  m_Store_size : Meth K c_Store "size" f_Store_size
  b_Store_size : Binds K fd_Store_size ["self", "number"] []
  f_Store_kind : Addr
  fd_Store_kind : FuncData
  F_Store_kind : Fun K "kind" "Store.kind" s_Store_kind f_Store_kind fd_Store_kind
  m_Store_kind : Meth K c_Store "kind" f_Store_kind
  b_Store_kind : Binds K fd_Store_kind ["self", "number"] []
  f_Store_set_kind : Addr
  fd_Store_set_kind : FuncData
  F_Store_set_kind : Fun K "set_kind" "Store.set_kind" s_Store_set_kind f_Store_set_kind fd_Store_set_kind
  m_Store_set_kind : Meth K c_Store "set_kind" f_Store_set_kind
  b_Store_set_kind : Binds K fd_Store_set_kind ["self", "number", "word"] []
  f_Store_get : Addr
  fd_Store_get : FuncData
  F_Store_get : Fun K "get" "Store.get" s_Store_get f_Store_get fd_Store_get
  m_Store_get : Meth K c_Store "get" f_Store_get
  b_Store_get : Binds K fd_Store_get ["self", "number", "at"] []
  f_Store_put : Addr
  fd_Store_put : FuncData
  F_Store_put : Fun K "put" "Store.put" s_Store_put f_Store_put fd_Store_put
  m_Store_put : Meth K c_Store "put" f_Store_put
  b_Store_put : Binds K fd_Store_put ["self", "number", "at", "word"] []
  f_Store_slots : Addr
  fd_Store_slots : FuncData
  F_Store_slots : Fun K "slots" "Store.slots" s_Store_slots f_Store_slots fd_Store_slots
  m_Store_slots : Meth K c_Store "slots" f_Store_slots
  b_Store_slots : Binds K fd_Store_slots ["self", "number"] []
  f_Store_drop : Addr
  fd_Store_drop : FuncData
  F_Store_drop : Fun K "drop" "Store.drop" s_Store_drop f_Store_drop fd_Store_drop
  m_Store_drop : Meth K c_Store "drop" f_Store_drop
  b_Store_drop : Binds K fd_Store_drop ["self", "number"] []
  f_Store_close_up : Addr
  fd_Store_close_up : FuncData
  cA_Store_close_up : Addr
  PT_Store_close_up : Addr
  hd_Store_close_up : PySem.W.codeHdIn K cA_Store_close_up PT_Store_close_up = true
  np_Store_close_up : K.lookup PT_Store_close_up = none
  G_Store_close_up : FunC K "close_up" "Store.close_up" s_Store_close_up f_Store_close_up fd_Store_close_up cA_Store_close_up
  F_Store_close_up : Fun K "close_up" "Store.close_up" s_Store_close_up f_Store_close_up fd_Store_close_up
  m_Store_close_up : Meth K c_Store "close_up" f_Store_close_up
  b_Store_close_up : Binds K fd_Store_close_up ["self"] []
  f_Store_snapshot : Addr
  fd_Store_snapshot : FuncData
  F_Store_snapshot : Fun K "snapshot" "Store.snapshot" s_Store_snapshot f_Store_snapshot fd_Store_snapshot
  m_Store_snapshot : Meth K c_Store "snapshot" f_Store_snapshot
  b_Store_snapshot : Binds K fd_Store_snapshot ["self"] []
  f_Store_restore : Addr
  fd_Store_restore : FuncData
  F_Store_restore : Fun K "restore" "Store.restore" s_Store_restore f_Store_restore fd_Store_restore
  m_Store_restore : Meth K c_Store "restore" f_Store_restore
  b_Store_restore : Binds K fd_Store_restore ["self", "snapshot"] []
  f_Store_exchange : Addr
  fd_Store_exchange : FuncData
  F_Store_exchange : Fun K "exchange" "Store.exchange" s_Store_exchange f_Store_exchange fd_Store_exchange
  m_Store_exchange : Meth K c_Store "exchange" f_Store_exchange
  b_Store_exchange : Binds K fd_Store_exchange ["self", "first", "second"] []
  f__law_number : Addr
  fd__law_number : FuncData
  F__law_number : Fun K "_law_number" "_law_number" s__law_number f__law_number fd__law_number
  g__law_number : mg "_law_number" = some (.ref f__law_number)
  b__law_number : Binds K fd__law_number ["_law_cell", "_law_k"] []
  f__law_deeds : Addr
  fd__law_deeds : FuncData
  F__law_deeds : Fun K "_law_deeds" "_law_deeds" s__law_deeds f__law_deeds fd__law_deeds
  g__law_deeds : mg "_law_deeds" = some (.ref f__law_deeds)
  b__law_deeds : Binds K fd__law_deeds ["_law_cell", "_law_k"] []
  f__law_word : Addr
  fd__law_word : FuncData
  F__law_word : Fun K "_law_word" "_law_word" s__law_word f__law_word fd__law_word
  g__law_word : mg "_law_word" = some (.ref f__law_word)
  b__law_word : Binds K fd__law_word ["_law_x"] []
  f__law_is : Addr
  fd__law_is : FuncData
  F__law_is : Fun K "_law_is" "_law_is" s__law_is f__law_is fd__law_is
  g__law_is : mg "_law_is" = some (.ref f__law_is)
  b__law_is : Binds K fd__law_is ["_law_actual", "_law_due"] []
  f__law_same : Addr
  fd__law_same : FuncData
  F__law_same : Fun K "_law_same" "_law_same" s__law_same f__law_same fd__law_same
  g__law_same : mg "_law_same" = some (.ref f__law_same)
  b__law_same : Binds K fd__law_same ["_law_actual", "_law_due"] []
  f__law_flat : Addr
  fd__law_flat : FuncData
  F__law_flat : Fun K "_law_flat" "_law_flat" s__law_flat f__law_flat fd__law_flat
  g__law_flat : mg "_law_flat" = some (.ref f__law_flat)
  b__law_flat : Binds K fd__law_flat ["_law_row"] []
  f__law_living : Addr
  fd__law_living : FuncData
  F__law_living : Fun K "_law_living" "_law_living" s__law_living f__law_living fd__law_living
  g__law_living : mg "_law_living" = some (.ref f__law_living)
  b__law_living : Binds K fd__law_living ["_law_row"] []
  f__law_free : Addr
  fd__law_free : FuncData
  F__law_free : Fun K "_law_free" "_law_free" s__law_free f__law_free fd__law_free
  g__law_free : mg "_law_free" = some (.ref f__law_free)
  b__law_free : Binds K fd__law_free ["_law_row"] []
  f__law_copy : Addr
  fd__law_copy : FuncData
  F__law_copy : Fun K "_law_copy" "_law_copy" s__law_copy f__law_copy fd__law_copy
  g__law_copy : mg "_law_copy" = some (.ref f__law_copy)
  b__law_copy : Binds K fd__law_copy ["_law_row"] []
  f__law_allocated : Addr
  fd__law_allocated : FuncData
  F__law_allocated : Fun K "_law_allocated" "_law_allocated" s__law_allocated f__law_allocated fd__law_allocated
  g__law_allocated : mg "_law_allocated" = some (.ref f__law_allocated)
  b__law_allocated : Binds K fd__law_allocated ["_law_store", "_law_row", "_law_limits", "_law_kind", "_law_size"] []
  f__law_changed : Addr
  fd__law_changed : FuncData
  F__law_changed : Fun K "_law_changed" "_law_changed" s__law_changed f__law_changed fd__law_changed
  g__law_changed : mg "_law_changed" = some (.ref f__law_changed)
  b__law_changed : Binds K fd__law_changed ["_law_store", "_law_row", "_law_taken", "_law_deed_here", "_law_x"] []
  f__law_agrees : Addr
  fd__law_agrees : FuncData
  F__law_agrees : Fun K "_law_agrees" "_law_agrees" s__law_agrees f__law_agrees fd__law_agrees
  g__law_agrees : mg "_law_agrees" = some (.ref f__law_agrees)
  b__law_agrees : Binds K fd__law_agrees ["_law_store", "_law_row", "_law_entries", "_law_x"] []
  f__law_deed : Addr
  fd__law_deed : FuncData
  F__law_deed : Fun K "_law_deed" "_law_deed" s__law_deed f__law_deed fd__law_deed
  g__law_deed : mg "_law_deed" = some (.ref f__law_deed)
  b__law_deed : Binds K fd__law_deed ["_law_store", "_law_row", "_law_taken", "_law_limits", "_law_x"] []
  f_law : Addr
  fd_law : FuncData
  F_law : Fun K "law" "law" s_law f_law fd_law
  g_law : mg "law" = some (.ref f_law)
  b_law : Binds K fd_law ["_law_script"] []
  kb_RR : PySem.W.kitOne K (.ref c_NoRoom) (.ref c_NoRoom) = some true
  kb_NR : PySem.W.kitOne K (.ref c_NoNumber) (.ref c_NoRoom) = some false
  kb_NN : PySem.W.kitOne K (.ref c_NoNumber) (.ref c_NoNumber) = some true
  em_RS : PySem.W.exmOne K (.ref c_NoRoom) (.ref c_SaggarError) = some true
  em_NS : PySem.W.exmOne K (.ref c_NoNumber) (.ref c_SaggarError) = some true
  em_NN : PySem.W.exmOne K (.ref c_NoNumber) (.ref c_NoNumber) = some true
def mkW {l : PySem.W.OpenLaw} {K : PySem.W.Frag} {h : Heap} {mg : Str → Option Value} (X : K.In h) (G : h.Ns mainGlobals mg)
    {t_NIL : Tok}
    {t_HEADER : Tok}
    {C_SaggarError : Addr}
    {C_NoRoom : Addr}
    {C_NoNumber : Addr}
    {C_Store : Addr}
    {ocNoRoom___init__ kVNoRoom___init__ dcNoRoom___init__ pmNoRoom___init__ cdNoRoom___init__ ctNoRoom___init__ : Value} {odNoRoom___init__ anNoRoom___init__ : Option Addr} {slNoRoom___init__ : Array (Option Value)} {fNoRoom___init__ : Addr}
    {cdaNoRoom___init__ ccNoRoom___init__ : Addr} {cclNoRoom___init__ coNoRoom___init__ : Value} {cddNoRoom___init__ cldNoRoom___init__ : Option Addr} {vsNoRoom___init__ : Array Value} {ccsNoRoom___init__ cslNoRoom___init__ : Array (Option Value)} {fileNoRoom___init__ : Str} {tfNoRoom___init__ : Tok}
    {nmNoRoom qNoRoom : Str} {NNoRoom : Addr} {bsNoRoom bmNoRoom : List Value} {snNoRoom : List Str} {subNoRoom : List Value} {abNoRoom : Bool} {colNoRoom : Option Bool} {ddNoRoom : Option Addr} {m0NoRoom m1NoRoom m2NoRoom m3NoRoom m5NoRoom : Option Value}
    {ocNoNumber___init__ kVNoNumber___init__ dcNoNumber___init__ pmNoNumber___init__ cdNoNumber___init__ ctNoNumber___init__ : Value} {odNoNumber___init__ anNoNumber___init__ : Option Addr} {slNoNumber___init__ : Array (Option Value)} {fNoNumber___init__ : Addr}
    {cdaNoNumber___init__ ccNoNumber___init__ : Addr} {cclNoNumber___init__ coNoNumber___init__ : Value} {cddNoNumber___init__ cldNoNumber___init__ : Option Addr} {vsNoNumber___init__ : Array Value} {ccsNoNumber___init__ cslNoNumber___init__ : Array (Option Value)} {fileNoNumber___init__ : Str} {tfNoNumber___init__ : Tok}
    {nmNoNumber qNoNumber : Str} {NNoNumber : Addr} {bsNoNumber bmNoNumber : List Value} {snNoNumber : List Str} {subNoNumber : List Value} {abNoNumber : Bool} {colNoNumber : Option Bool} {ddNoNumber : Option Addr} {m0NoNumber m1NoNumber m2NoNumber m3NoNumber m5NoNumber : Option Value}
    {ocStore___init__ kVStore___init__ dcStore___init__ pmStore___init__ cdStore___init__ ctStore___init__ : Value} {odStore___init__ anStore___init__ : Option Addr} {slStore___init__ : Array (Option Value)} {fStore___init__ : Addr}
    {ocStore_used kVStore_used dcStore_used pmStore_used cdStore_used ctStore_used : Value} {odStore_used anStore_used : Option Addr} {slStore_used : Array (Option Value)} {fStore_used : Addr}
    {ocStore_exists kVStore_exists dcStore_exists pmStore_exists cdStore_exists ctStore_exists : Value} {odStore_exists anStore_exists : Option Addr} {slStore_exists : Array (Option Value)} {fStore_exists : Addr}
    {ocStore_numbers kVStore_numbers dcStore_numbers pmStore_numbers cdStore_numbers ctStore_numbers : Value} {odStore_numbers anStore_numbers : Option Addr} {slStore_numbers : Array (Option Value)} {fStore_numbers : Addr}
    {ocStore_free_number kVStore_free_number dcStore_free_number pmStore_free_number cdStore_free_number ctStore_free_number : Value} {odStore_free_number anStore_free_number : Option Addr} {slStore_free_number : Array (Option Value)} {fStore_free_number : Addr}
    {ocStore_allocate kVStore_allocate dcStore_allocate pmStore_allocate cdStore_allocate ctStore_allocate : Value} {odStore_allocate anStore_allocate : Option Addr} {slStore_allocate : Array (Option Value)} {fStore_allocate : Addr}
    {ocStore_size kVStore_size dcStore_size pmStore_size cdStore_size ctStore_size : Value} {odStore_size anStore_size : Option Addr} {slStore_size : Array (Option Value)} {fStore_size : Addr}
    {ocStore_kind kVStore_kind dcStore_kind pmStore_kind cdStore_kind ctStore_kind : Value} {odStore_kind anStore_kind : Option Addr} {slStore_kind : Array (Option Value)} {fStore_kind : Addr}
    {ocStore_set_kind kVStore_set_kind dcStore_set_kind pmStore_set_kind cdStore_set_kind ctStore_set_kind : Value} {odStore_set_kind anStore_set_kind : Option Addr} {slStore_set_kind : Array (Option Value)} {fStore_set_kind : Addr}
    {ocStore_get kVStore_get dcStore_get pmStore_get cdStore_get ctStore_get : Value} {odStore_get anStore_get : Option Addr} {slStore_get : Array (Option Value)} {fStore_get : Addr}
    {ocStore_put kVStore_put dcStore_put pmStore_put cdStore_put ctStore_put : Value} {odStore_put anStore_put : Option Addr} {slStore_put : Array (Option Value)} {fStore_put : Addr}
    {ocStore_slots kVStore_slots dcStore_slots pmStore_slots cdStore_slots ctStore_slots : Value} {odStore_slots anStore_slots : Option Addr} {slStore_slots : Array (Option Value)} {fStore_slots : Addr}
    {ocStore_drop kVStore_drop dcStore_drop pmStore_drop cdStore_drop ctStore_drop : Value} {odStore_drop anStore_drop : Option Addr} {slStore_drop : Array (Option Value)} {fStore_drop : Addr}
    {ocStore_close_up kVStore_close_up dcStore_close_up pmStore_close_up cdStore_close_up ctStore_close_up : Value} {odStore_close_up anStore_close_up : Option Addr} {slStore_close_up : Array (Option Value)} {fStore_close_up : Addr}
    {cAStore_close_up PTStore_close_up : Addr} {cclStore_close_up : Value} {cddStore_close_up : Option Addr} {vsStore_close_up : Array Value} {ccsStore_close_up : Array (Option Value)}
    {ocStore_snapshot kVStore_snapshot dcStore_snapshot pmStore_snapshot cdStore_snapshot ctStore_snapshot : Value} {odStore_snapshot anStore_snapshot : Option Addr} {slStore_snapshot : Array (Option Value)} {fStore_snapshot : Addr}
    {ocStore_restore kVStore_restore dcStore_restore pmStore_restore cdStore_restore ctStore_restore : Value} {odStore_restore anStore_restore : Option Addr} {slStore_restore : Array (Option Value)} {fStore_restore : Addr}
    {ocStore_exchange kVStore_exchange dcStore_exchange pmStore_exchange cdStore_exchange ctStore_exchange : Value} {odStore_exchange anStore_exchange : Option Addr} {slStore_exchange : Array (Option Value)} {fStore_exchange : Addr}
    {oc_law_number kV_law_number dc_law_number pm_law_number cd_law_number ct_law_number : Value} {od_law_number an_law_number : Option Addr} {sl_law_number : Array (Option Value)} {f_law_number : Addr}
    {oc_law_deeds kV_law_deeds dc_law_deeds pm_law_deeds cd_law_deeds ct_law_deeds : Value} {od_law_deeds an_law_deeds : Option Addr} {sl_law_deeds : Array (Option Value)} {f_law_deeds : Addr}
    {oc_law_word kV_law_word dc_law_word pm_law_word cd_law_word ct_law_word : Value} {od_law_word an_law_word : Option Addr} {sl_law_word : Array (Option Value)} {f_law_word : Addr}
    {oc_law_is kV_law_is dc_law_is pm_law_is cd_law_is ct_law_is : Value} {od_law_is an_law_is : Option Addr} {sl_law_is : Array (Option Value)} {f_law_is : Addr}
    {oc_law_same kV_law_same dc_law_same pm_law_same cd_law_same ct_law_same : Value} {od_law_same an_law_same : Option Addr} {sl_law_same : Array (Option Value)} {f_law_same : Addr}
    {oc_law_flat kV_law_flat dc_law_flat pm_law_flat cd_law_flat ct_law_flat : Value} {od_law_flat an_law_flat : Option Addr} {sl_law_flat : Array (Option Value)} {f_law_flat : Addr}
    {oc_law_living kV_law_living dc_law_living pm_law_living cd_law_living ct_law_living : Value} {od_law_living an_law_living : Option Addr} {sl_law_living : Array (Option Value)} {f_law_living : Addr}
    {oc_law_free kV_law_free dc_law_free pm_law_free cd_law_free ct_law_free : Value} {od_law_free an_law_free : Option Addr} {sl_law_free : Array (Option Value)} {f_law_free : Addr}
    {oc_law_copy kV_law_copy dc_law_copy pm_law_copy cd_law_copy ct_law_copy : Value} {od_law_copy an_law_copy : Option Addr} {sl_law_copy : Array (Option Value)} {f_law_copy : Addr}
    {oc_law_allocated kV_law_allocated dc_law_allocated pm_law_allocated cd_law_allocated ct_law_allocated : Value} {od_law_allocated an_law_allocated : Option Addr} {sl_law_allocated : Array (Option Value)} {f_law_allocated : Addr}
    {oc_law_changed kV_law_changed dc_law_changed pm_law_changed cd_law_changed ct_law_changed : Value} {od_law_changed an_law_changed : Option Addr} {sl_law_changed : Array (Option Value)} {f_law_changed : Addr}
    {oc_law_agrees kV_law_agrees dc_law_agrees pm_law_agrees cd_law_agrees ct_law_agrees : Value} {od_law_agrees an_law_agrees : Option Addr} {sl_law_agrees : Array (Option Value)} {f_law_agrees : Addr}
    {oc_law_deed kV_law_deed dc_law_deed pm_law_deed cd_law_deed ct_law_deed : Value} {od_law_deed an_law_deed : Option Addr} {sl_law_deed : Array (Option Value)} {f_law_deed : Addr}
    {oclaw kVlaw dclaw pmlaw cdlaw ctlaw : Value} {odlaw anlaw : Option Addr} {sllaw : Array (Option Value)} {flaw : Addr}
    (z_third : PySem.W.nsIn K cStatics "thirdparty.any" = some none) (z_super : PySem.W.nsIn K mainGlobals "super" = some none) (z_top : (l.prog.main.scope.names.lookup ("super" : Str)).isSome = false)
    (z_sg : PySem.W.specialIn K (.builtin "object.__class__") "__get__" = some (some (.builtin "getset_descriptor.__get__"))) (z_st : PySem.W.takesIn K (.builtin "object.__class__") = some true)
    (z_bool : PySem.W.nsIn K mainGlobals "bool" = some none)
    (z_dict : PySem.W.nsIn K mainGlobals "dict" = some none)
    (z_int : PySem.W.nsIn K mainGlobals "int" = some none)
    (z_isinstance : PySem.W.nsIn K mainGlobals "isinstance" = some none)
    (z_len : PySem.W.nsIn K mainGlobals "len" = some none)
    (z_list : PySem.W.nsIn K mainGlobals "list" = some none)
    (z_min : PySem.W.nsIn K mainGlobals "min" = some none)
    (z_range : PySem.W.nsIn K mainGlobals "range" = some none)
    (z_sorted : PySem.W.nsIn K mainGlobals "sorted" = some none)
    (z_str : PySem.W.nsIn K mainGlobals "str" = some none)
    (c_NIL : PySem.W.nsIn K mainGlobals "NIL" = some (some (.int (0) t_NIL)))
    (c_HEADER : PySem.W.nsIn K mainGlobals "HEADER" = some (some (.int (3) t_HEADER)))
    (cl_SaggarError : PySem.W.nsIn K mainGlobals "SaggarError" = some (some (.ref C_SaggarError)))
    (cl_NoRoom : PySem.W.nsIn K mainGlobals "NoRoom" = some (some (.ref C_NoRoom)))
    (cl_NoNumber : PySem.W.nsIn K mainGlobals "NoNumber" = some (some (.ref C_NoNumber)))
    (cl_Store : PySem.W.nsIn K mainGlobals "Store" = some (some (.ref C_Store)))
    (pg_Store : PySem.W.plainGet K C_Store Str.empty = true)
    (hd_Store : PySem.W.hasDictIn K C_Store = true)
    (po_Store : PySem.W.plainOver K C_Store = true)
    (sa_Store : PySem.W.findIn K (.ref C_Store) "__setattr__" = some (some (.builtin "object.__setattr__")))
    (mk_Store : PySem.W.makesIn K C_Store = true)
    (kp_Store : PySem.W.keepIn K (.ref C_Store) = true)
    (na_Store_room : PySem.W.findIn K (.ref C_Store) "room" = some none)
    (na_Store_entries : PySem.W.findIn K (.ref C_Store) "entries" = some none)
    (na_Store_words : PySem.W.findIn K (.ref C_Store) "words" = some none)
    (na_Store__places : PySem.W.findIn K (.ref C_Store) "_places" = some none)
    (na_Store__least : PySem.W.findIn K (.ref C_Store) "_least" = some none)
    (a_NoRoom___init__ : PySem.W.findIn K (.ref C_NoRoom) "__init__" = some (some (.ref fNoRoom___init__)))
    (l_NoRoom___init__ : K.lookup fNoRoom___init__ = some ⟨ocNoRoom___init__, odNoRoom___init__, .func (PySem.W.fnX "__init__" "NoRoom.__init__" (defArgs s_NoRoom___init__) (defBody s_NoRoom___init__) (defScope s_NoRoom___init__) [("__class__", ccNoRoom___init__)] .none kVNoRoom___init__ dcNoRoom___init__ pmNoRoom___init__ anNoRoom___init__ (.ref cdaNoRoom___init__) ctNoRoom___init__), slNoRoom___init__⟩)
    (c_NoRoom___init__ : PySem.W.codeIn K (.ref cdaNoRoom___init__) "NoRoom.__init__" = true)
    (k_NoRoom___init__ : PySem.W.typeIn K (.ref fNoRoom___init__) = some (.type "function"))
    (x1_NoRoom___init__ : K.lookup cdaNoRoom___init__ = some ⟨cclNoRoom___init__, cddNoRoom___init__, .fields vsNoRoom___init__, ccsNoRoom___init__⟩)
    (x2_NoRoom___init__ : vsNoRoom___init__[2]? = some (.str fileNoRoom___init__ tfNoRoom___init__))
    (x3_NoRoom___init__ : ((l.prog.main.file : Str) == fileNoRoom___init__) = true)
    (x4_NoRoom___init__ : K.lookup ccNoRoom___init__ = some ⟨coNoRoom___init__, cldNoRoom___init__, .cell (some (.ref C_NoRoom)), cslNoRoom___init__⟩)
    (xl_NoRoom : K.lookup C_NoRoom = some (excClassObj nmNoRoom qNoRoom C_NoRoom NNoRoom bsNoRoom bmNoRoom true snNoRoom subNoRoom abNoRoom colNoRoom ddNoRoom m0NoRoom m1NoRoom m2NoRoom m3NoRoom m5NoRoom "ValueError.__new__"))
    (xr_NoRoom : PySem.HandSPX.refsVE bmNoRoom = true)
    (xs_NoRoom : PySem.W.findIn K (.ref C_NoRoom) "__setattr__" = some (some (.builtin "object.__setattr__")))
    (xe_NoRoom : PySem.W.subIn K (.ref C_NoRoom) (.type "BaseException") = some true)
    (xt_NoRoom : PySem.W.typeIn K (.ref C_NoRoom) = some (.type "type"))
    (xk_NoRoom : PySem.W.keepIn K (.ref C_NoRoom) = true)
    (xm_NoRoom : PySem.W.mroIn K C_NoRoom (.ref C_NoRoom) = some true)
    (xi_NoRoom : PySem.W.ks_superIn K C_NoRoom C_NoRoom "__init__" = some (some (.builtin "ValueError.__init__")))
    (xb_NoRoom : PySem.W.subIn K (.ref C_NoRoom) (.type "ValueError") = some true)
    (eg_NoRoom : PySem.W.findIn K (.ref C_NoRoom) "__getattribute__" = some (some (.builtin "BaseException.__getattribute__")))
    (ek_NoRoom : PySem.W.findIn K (.ref C_NoRoom) "__getattr__" = some none)
    (ed_NoRoom : PySem.W.hasDictIn K C_NoRoom = true)
    (ea_NoRoom : PySem.W.findIn K (.ref C_NoRoom) "__class__" = some (some (.builtin "object.__class__")))
    (em_NoRoom : PySem.W.mroIn K C_NoRoom (.type "object") = some true)
    (xn_NoRoom_need : PySem.W.findIn K (.ref C_NoRoom) "need" = some none)
    (a_NoNumber___init__ : PySem.W.findIn K (.ref C_NoNumber) "__init__" = some (some (.ref fNoNumber___init__)))
    (l_NoNumber___init__ : K.lookup fNoNumber___init__ = some ⟨ocNoNumber___init__, odNoNumber___init__, .func (PySem.W.fnX "__init__" "NoNumber.__init__" (defArgs s_NoNumber___init__) (defBody s_NoNumber___init__) (defScope s_NoNumber___init__) [("__class__", ccNoNumber___init__)] .none kVNoNumber___init__ dcNoNumber___init__ pmNoNumber___init__ anNoNumber___init__ (.ref cdaNoNumber___init__) ctNoNumber___init__), slNoNumber___init__⟩)
    (c_NoNumber___init__ : PySem.W.codeIn K (.ref cdaNoNumber___init__) "NoNumber.__init__" = true)
    (k_NoNumber___init__ : PySem.W.typeIn K (.ref fNoNumber___init__) = some (.type "function"))
    (x1_NoNumber___init__ : K.lookup cdaNoNumber___init__ = some ⟨cclNoNumber___init__, cddNoNumber___init__, .fields vsNoNumber___init__, ccsNoNumber___init__⟩)
    (x2_NoNumber___init__ : vsNoNumber___init__[2]? = some (.str fileNoNumber___init__ tfNoNumber___init__))
    (x3_NoNumber___init__ : ((l.prog.main.file : Str) == fileNoNumber___init__) = true)
    (x4_NoNumber___init__ : K.lookup ccNoNumber___init__ = some ⟨coNoNumber___init__, cldNoNumber___init__, .cell (some (.ref C_NoNumber)), cslNoNumber___init__⟩)
    (xl_NoNumber : K.lookup C_NoNumber = some (excClassObj nmNoNumber qNoNumber C_NoNumber NNoNumber bsNoNumber bmNoNumber true snNoNumber subNoNumber abNoNumber colNoNumber ddNoNumber m0NoNumber m1NoNumber m2NoNumber m3NoNumber m5NoNumber "ValueError.__new__"))
    (xr_NoNumber : PySem.HandSPX.refsVE bmNoNumber = true)
    (xs_NoNumber : PySem.W.findIn K (.ref C_NoNumber) "__setattr__" = some (some (.builtin "object.__setattr__")))
    (xe_NoNumber : PySem.W.subIn K (.ref C_NoNumber) (.type "BaseException") = some true)
    (xt_NoNumber : PySem.W.typeIn K (.ref C_NoNumber) = some (.type "type"))
    (xk_NoNumber : PySem.W.keepIn K (.ref C_NoNumber) = true)
    (xm_NoNumber : PySem.W.mroIn K C_NoNumber (.ref C_NoNumber) = some true)
    (xi_NoNumber : PySem.W.ks_superIn K C_NoNumber C_NoNumber "__init__" = some (some (.builtin "ValueError.__init__")))
    (xb_NoNumber : PySem.W.subIn K (.ref C_NoNumber) (.type "ValueError") = some true)
    (eg_NoNumber : PySem.W.findIn K (.ref C_NoNumber) "__getattribute__" = some (some (.builtin "BaseException.__getattribute__")))
    (ek_NoNumber : PySem.W.findIn K (.ref C_NoNumber) "__getattr__" = some none)
    (ed_NoNumber : PySem.W.hasDictIn K C_NoNumber = true)
    (ea_NoNumber : PySem.W.findIn K (.ref C_NoNumber) "__class__" = some (some (.builtin "object.__class__")))
    (em_NoNumber : PySem.W.mroIn K C_NoNumber (.type "object") = some true)
    (xn_NoNumber_limit : PySem.W.findIn K (.ref C_NoNumber) "limit" = some none)
    (a_Store___init__ : PySem.W.findIn K (.ref C_Store) "__init__" = some (some (.ref fStore___init__)))
    (l_Store___init__ : K.lookup fStore___init__ = some ⟨ocStore___init__, odStore___init__, .func (PySem.W.fnOf "__init__" "Store.__init__" (defArgs s_Store___init__) (defBody s_Store___init__) (defScope s_Store___init__) .none kVStore___init__ dcStore___init__ pmStore___init__ anStore___init__ cdStore___init__ ctStore___init__), slStore___init__⟩)
    (c_Store___init__ : PySem.W.codeIn K cdStore___init__ "Store.__init__" = true)
    (k_Store___init__ : PySem.W.keepIn K (.ref fStore___init__) = true)
    (fn_Store___init__ : PySem.W.isFn K (.ref fStore___init__) = true)
    (a_Store_used : PySem.W.findIn K (.ref C_Store) "used" = some (some (.ref fStore_used)))
    (l_Store_used : K.lookup fStore_used = some ⟨ocStore_used, odStore_used, .func (PySem.W.fnOf "used" "Store.used" (defArgs s_Store_used) (defBody s_Store_used) (defScope s_Store_used) .none kVStore_used dcStore_used pmStore_used anStore_used cdStore_used ctStore_used), slStore_used⟩)
    (c_Store_used : PySem.W.codeIn K cdStore_used "Store.used" = true)
    (k_Store_used : PySem.W.keepIn K (.ref fStore_used) = true)
    (fn_Store_used : PySem.W.isFn K (.ref fStore_used) = true)
    (a_Store_exists : PySem.W.findIn K (.ref C_Store) "exists" = some (some (.ref fStore_exists)))
    (l_Store_exists : K.lookup fStore_exists = some ⟨ocStore_exists, odStore_exists, .func (PySem.W.fnOf "exists" "Store.exists" (defArgs s_Store_exists) (defBody s_Store_exists) (defScope s_Store_exists) .none kVStore_exists dcStore_exists pmStore_exists anStore_exists cdStore_exists ctStore_exists), slStore_exists⟩)
    (c_Store_exists : PySem.W.codeIn K cdStore_exists "Store.exists" = true)
    (k_Store_exists : PySem.W.keepIn K (.ref fStore_exists) = true)
    (fn_Store_exists : PySem.W.isFn K (.ref fStore_exists) = true)
    (a_Store_numbers : PySem.W.findIn K (.ref C_Store) "numbers" = some (some (.ref fStore_numbers)))
    (l_Store_numbers : K.lookup fStore_numbers = some ⟨ocStore_numbers, odStore_numbers, .func (PySem.W.fnOf "numbers" "Store.numbers" (defArgs s_Store_numbers) (defBody s_Store_numbers) (defScope s_Store_numbers) .none kVStore_numbers dcStore_numbers pmStore_numbers anStore_numbers cdStore_numbers ctStore_numbers), slStore_numbers⟩)
    (c_Store_numbers : PySem.W.codeIn K cdStore_numbers "Store.numbers" = true)
    (k_Store_numbers : PySem.W.keepIn K (.ref fStore_numbers) = true)
    (fn_Store_numbers : PySem.W.isFn K (.ref fStore_numbers) = true)
    (a_Store_free_number : PySem.W.findIn K (.ref C_Store) "free_number" = some (some (.ref fStore_free_number)))
    (l_Store_free_number : K.lookup fStore_free_number = some ⟨ocStore_free_number, odStore_free_number, .func (PySem.W.fnOf "free_number" "Store.free_number" (defArgs s_Store_free_number) (defBody s_Store_free_number) (defScope s_Store_free_number) .none kVStore_free_number dcStore_free_number pmStore_free_number anStore_free_number cdStore_free_number ctStore_free_number), slStore_free_number⟩)
    (c_Store_free_number : PySem.W.codeIn K cdStore_free_number "Store.free_number" = true)
    (k_Store_free_number : PySem.W.keepIn K (.ref fStore_free_number) = true)
    (fn_Store_free_number : PySem.W.isFn K (.ref fStore_free_number) = true)
    (a_Store_allocate : PySem.W.findIn K (.ref C_Store) "allocate" = some (some (.ref fStore_allocate)))
    (l_Store_allocate : K.lookup fStore_allocate = some ⟨ocStore_allocate, odStore_allocate, .func (PySem.W.fnOf "allocate" "Store.allocate" (defArgs s_Store_allocate) (defBody s_Store_allocate) (defScope s_Store_allocate) .none kVStore_allocate dcStore_allocate pmStore_allocate anStore_allocate cdStore_allocate ctStore_allocate), slStore_allocate⟩)
    (c_Store_allocate : PySem.W.codeIn K cdStore_allocate "Store.allocate" = true)
    (k_Store_allocate : PySem.W.keepIn K (.ref fStore_allocate) = true)
    (fn_Store_allocate : PySem.W.isFn K (.ref fStore_allocate) = true)
    (a_Store_size : PySem.W.findIn K (.ref C_Store) "size" = some (some (.ref fStore_size)))
    (l_Store_size : K.lookup fStore_size = some ⟨ocStore_size, odStore_size, .func (PySem.W.fnOf "size" "Store.size" (defArgs s_Store_size) (defBody s_Store_size) (defScope s_Store_size) .none kVStore_size dcStore_size pmStore_size anStore_size cdStore_size ctStore_size), slStore_size⟩)
    (c_Store_size : PySem.W.codeIn K cdStore_size "Store.size" = true)
    (k_Store_size : PySem.W.keepIn K (.ref fStore_size) = true)
    (fn_Store_size : PySem.W.isFn K (.ref fStore_size) = true)
    (a_Store_kind : PySem.W.findIn K (.ref C_Store) "kind" = some (some (.ref fStore_kind)))
    (l_Store_kind : K.lookup fStore_kind = some ⟨ocStore_kind, odStore_kind, .func (PySem.W.fnOf "kind" "Store.kind" (defArgs s_Store_kind) (defBody s_Store_kind) (defScope s_Store_kind) .none kVStore_kind dcStore_kind pmStore_kind anStore_kind cdStore_kind ctStore_kind), slStore_kind⟩)
    (c_Store_kind : PySem.W.codeIn K cdStore_kind "Store.kind" = true)
    (k_Store_kind : PySem.W.keepIn K (.ref fStore_kind) = true)
    (fn_Store_kind : PySem.W.isFn K (.ref fStore_kind) = true)
    (a_Store_set_kind : PySem.W.findIn K (.ref C_Store) "set_kind" = some (some (.ref fStore_set_kind)))
    (l_Store_set_kind : K.lookup fStore_set_kind = some ⟨ocStore_set_kind, odStore_set_kind, .func (PySem.W.fnOf "set_kind" "Store.set_kind" (defArgs s_Store_set_kind) (defBody s_Store_set_kind) (defScope s_Store_set_kind) .none kVStore_set_kind dcStore_set_kind pmStore_set_kind anStore_set_kind cdStore_set_kind ctStore_set_kind), slStore_set_kind⟩)
    (c_Store_set_kind : PySem.W.codeIn K cdStore_set_kind "Store.set_kind" = true)
    (k_Store_set_kind : PySem.W.keepIn K (.ref fStore_set_kind) = true)
    (fn_Store_set_kind : PySem.W.isFn K (.ref fStore_set_kind) = true)
    (a_Store_get : PySem.W.findIn K (.ref C_Store) "get" = some (some (.ref fStore_get)))
    (l_Store_get : K.lookup fStore_get = some ⟨ocStore_get, odStore_get, .func (PySem.W.fnOf "get" "Store.get" (defArgs s_Store_get) (defBody s_Store_get) (defScope s_Store_get) .none kVStore_get dcStore_get pmStore_get anStore_get cdStore_get ctStore_get), slStore_get⟩)
    (c_Store_get : PySem.W.codeIn K cdStore_get "Store.get" = true)
    (k_Store_get : PySem.W.keepIn K (.ref fStore_get) = true)
    (fn_Store_get : PySem.W.isFn K (.ref fStore_get) = true)
    (a_Store_put : PySem.W.findIn K (.ref C_Store) "put" = some (some (.ref fStore_put)))
    (l_Store_put : K.lookup fStore_put = some ⟨ocStore_put, odStore_put, .func (PySem.W.fnOf "put" "Store.put" (defArgs s_Store_put) (defBody s_Store_put) (defScope s_Store_put) .none kVStore_put dcStore_put pmStore_put anStore_put cdStore_put ctStore_put), slStore_put⟩)
    (c_Store_put : PySem.W.codeIn K cdStore_put "Store.put" = true)
    (k_Store_put : PySem.W.keepIn K (.ref fStore_put) = true)
    (fn_Store_put : PySem.W.isFn K (.ref fStore_put) = true)
    (a_Store_slots : PySem.W.findIn K (.ref C_Store) "slots" = some (some (.ref fStore_slots)))
    (l_Store_slots : K.lookup fStore_slots = some ⟨ocStore_slots, odStore_slots, .func (PySem.W.fnOf "slots" "Store.slots" (defArgs s_Store_slots) (defBody s_Store_slots) (defScope s_Store_slots) .none kVStore_slots dcStore_slots pmStore_slots anStore_slots cdStore_slots ctStore_slots), slStore_slots⟩)
    (c_Store_slots : PySem.W.codeIn K cdStore_slots "Store.slots" = true)
    (k_Store_slots : PySem.W.keepIn K (.ref fStore_slots) = true)
    (fn_Store_slots : PySem.W.isFn K (.ref fStore_slots) = true)
    (a_Store_drop : PySem.W.findIn K (.ref C_Store) "drop" = some (some (.ref fStore_drop)))
    (l_Store_drop : K.lookup fStore_drop = some ⟨ocStore_drop, odStore_drop, .func (PySem.W.fnOf "drop" "Store.drop" (defArgs s_Store_drop) (defBody s_Store_drop) (defScope s_Store_drop) .none kVStore_drop dcStore_drop pmStore_drop anStore_drop cdStore_drop ctStore_drop), slStore_drop⟩)
    (c_Store_drop : PySem.W.codeIn K cdStore_drop "Store.drop" = true)
    (k_Store_drop : PySem.W.keepIn K (.ref fStore_drop) = true)
    (fn_Store_drop : PySem.W.isFn K (.ref fStore_drop) = true)
    (a_Store_close_up : PySem.W.findIn K (.ref C_Store) "close_up" = some (some (.ref fStore_close_up)))
    (l_Store_close_up : K.lookup fStore_close_up = some ⟨ocStore_close_up, odStore_close_up, .func (PySem.W.fnOf "close_up" "Store.close_up" (defArgs s_Store_close_up) (defBody s_Store_close_up) (defScope s_Store_close_up) .none kVStore_close_up dcStore_close_up pmStore_close_up anStore_close_up (.ref cAStore_close_up) ctStore_close_up), slStore_close_up⟩)
    (c_Store_close_up : PySem.W.codeIn K (.ref cAStore_close_up) "Store.close_up" = true)
    (k_Store_close_up : PySem.W.keepIn K (.ref fStore_close_up) = true)
    (x1_Store_close_up : K.lookup cAStore_close_up = some ⟨cclStore_close_up, cddStore_close_up, .fields vsStore_close_up, ccsStore_close_up⟩)
    (x2_Store_close_up : vsStore_close_up[11]? = some (.ref PTStore_close_up))
    (x3_Store_close_up : PySem.W.codeHdIn K cAStore_close_up PTStore_close_up = true)
    (x4_Store_close_up : K.lookup PTStore_close_up = none)
    (fn_Store_close_up : PySem.W.isFn K (.ref fStore_close_up) = true)
    (a_Store_snapshot : PySem.W.findIn K (.ref C_Store) "snapshot" = some (some (.ref fStore_snapshot)))
    (l_Store_snapshot : K.lookup fStore_snapshot = some ⟨ocStore_snapshot, odStore_snapshot, .func (PySem.W.fnOf "snapshot" "Store.snapshot" (defArgs s_Store_snapshot) (defBody s_Store_snapshot) (defScope s_Store_snapshot) .none kVStore_snapshot dcStore_snapshot pmStore_snapshot anStore_snapshot cdStore_snapshot ctStore_snapshot), slStore_snapshot⟩)
    (c_Store_snapshot : PySem.W.codeIn K cdStore_snapshot "Store.snapshot" = true)
    (k_Store_snapshot : PySem.W.keepIn K (.ref fStore_snapshot) = true)
    (fn_Store_snapshot : PySem.W.isFn K (.ref fStore_snapshot) = true)
    (a_Store_restore : PySem.W.findIn K (.ref C_Store) "restore" = some (some (.ref fStore_restore)))
    (l_Store_restore : K.lookup fStore_restore = some ⟨ocStore_restore, odStore_restore, .func (PySem.W.fnOf "restore" "Store.restore" (defArgs s_Store_restore) (defBody s_Store_restore) (defScope s_Store_restore) .none kVStore_restore dcStore_restore pmStore_restore anStore_restore cdStore_restore ctStore_restore), slStore_restore⟩)
    (c_Store_restore : PySem.W.codeIn K cdStore_restore "Store.restore" = true)
    (k_Store_restore : PySem.W.keepIn K (.ref fStore_restore) = true)
    (fn_Store_restore : PySem.W.isFn K (.ref fStore_restore) = true)
    (a_Store_exchange : PySem.W.findIn K (.ref C_Store) "exchange" = some (some (.ref fStore_exchange)))
    (l_Store_exchange : K.lookup fStore_exchange = some ⟨ocStore_exchange, odStore_exchange, .func (PySem.W.fnOf "exchange" "Store.exchange" (defArgs s_Store_exchange) (defBody s_Store_exchange) (defScope s_Store_exchange) .none kVStore_exchange dcStore_exchange pmStore_exchange anStore_exchange cdStore_exchange ctStore_exchange), slStore_exchange⟩)
    (c_Store_exchange : PySem.W.codeIn K cdStore_exchange "Store.exchange" = true)
    (k_Store_exchange : PySem.W.keepIn K (.ref fStore_exchange) = true)
    (fn_Store_exchange : PySem.W.isFn K (.ref fStore_exchange) = true)
    (a__law_number : PySem.W.nsIn K mainGlobals "_law_number" = some (some (.ref f_law_number)))
    (l__law_number : K.lookup f_law_number = some ⟨oc_law_number, od_law_number, .func (PySem.W.fnOf "_law_number" "_law_number" (defArgs s__law_number) (defBody s__law_number) (defScope s__law_number) .none kV_law_number dc_law_number pm_law_number an_law_number cd_law_number ct_law_number), sl_law_number⟩)
    (c__law_number : PySem.W.codeIn K cd_law_number "_law_number" = true)
    (k__law_number : PySem.W.keepIn K (.ref f_law_number) = true)
    (a__law_deeds : PySem.W.nsIn K mainGlobals "_law_deeds" = some (some (.ref f_law_deeds)))
    (l__law_deeds : K.lookup f_law_deeds = some ⟨oc_law_deeds, od_law_deeds, .func (PySem.W.fnOf "_law_deeds" "_law_deeds" (defArgs s__law_deeds) (defBody s__law_deeds) (defScope s__law_deeds) .none kV_law_deeds dc_law_deeds pm_law_deeds an_law_deeds cd_law_deeds ct_law_deeds), sl_law_deeds⟩)
    (c__law_deeds : PySem.W.codeIn K cd_law_deeds "_law_deeds" = true)
    (k__law_deeds : PySem.W.keepIn K (.ref f_law_deeds) = true)
    (a__law_word : PySem.W.nsIn K mainGlobals "_law_word" = some (some (.ref f_law_word)))
    (l__law_word : K.lookup f_law_word = some ⟨oc_law_word, od_law_word, .func (PySem.W.fnOf "_law_word" "_law_word" (defArgs s__law_word) (defBody s__law_word) (defScope s__law_word) .none kV_law_word dc_law_word pm_law_word an_law_word cd_law_word ct_law_word), sl_law_word⟩)
    (c__law_word : PySem.W.codeIn K cd_law_word "_law_word" = true)
    (k__law_word : PySem.W.keepIn K (.ref f_law_word) = true)
    (a__law_is : PySem.W.nsIn K mainGlobals "_law_is" = some (some (.ref f_law_is)))
    (l__law_is : K.lookup f_law_is = some ⟨oc_law_is, od_law_is, .func (PySem.W.fnOf "_law_is" "_law_is" (defArgs s__law_is) (defBody s__law_is) (defScope s__law_is) .none kV_law_is dc_law_is pm_law_is an_law_is cd_law_is ct_law_is), sl_law_is⟩)
    (c__law_is : PySem.W.codeIn K cd_law_is "_law_is" = true)
    (k__law_is : PySem.W.keepIn K (.ref f_law_is) = true)
    (a__law_same : PySem.W.nsIn K mainGlobals "_law_same" = some (some (.ref f_law_same)))
    (l__law_same : K.lookup f_law_same = some ⟨oc_law_same, od_law_same, .func (PySem.W.fnOf "_law_same" "_law_same" (defArgs s__law_same) (defBody s__law_same) (defScope s__law_same) .none kV_law_same dc_law_same pm_law_same an_law_same cd_law_same ct_law_same), sl_law_same⟩)
    (c__law_same : PySem.W.codeIn K cd_law_same "_law_same" = true)
    (k__law_same : PySem.W.keepIn K (.ref f_law_same) = true)
    (a__law_flat : PySem.W.nsIn K mainGlobals "_law_flat" = some (some (.ref f_law_flat)))
    (l__law_flat : K.lookup f_law_flat = some ⟨oc_law_flat, od_law_flat, .func (PySem.W.fnOf "_law_flat" "_law_flat" (defArgs s__law_flat) (defBody s__law_flat) (defScope s__law_flat) .none kV_law_flat dc_law_flat pm_law_flat an_law_flat cd_law_flat ct_law_flat), sl_law_flat⟩)
    (c__law_flat : PySem.W.codeIn K cd_law_flat "_law_flat" = true)
    (k__law_flat : PySem.W.keepIn K (.ref f_law_flat) = true)
    (a__law_living : PySem.W.nsIn K mainGlobals "_law_living" = some (some (.ref f_law_living)))
    (l__law_living : K.lookup f_law_living = some ⟨oc_law_living, od_law_living, .func (PySem.W.fnOf "_law_living" "_law_living" (defArgs s__law_living) (defBody s__law_living) (defScope s__law_living) .none kV_law_living dc_law_living pm_law_living an_law_living cd_law_living ct_law_living), sl_law_living⟩)
    (c__law_living : PySem.W.codeIn K cd_law_living "_law_living" = true)
    (k__law_living : PySem.W.keepIn K (.ref f_law_living) = true)
    (a__law_free : PySem.W.nsIn K mainGlobals "_law_free" = some (some (.ref f_law_free)))
    (l__law_free : K.lookup f_law_free = some ⟨oc_law_free, od_law_free, .func (PySem.W.fnOf "_law_free" "_law_free" (defArgs s__law_free) (defBody s__law_free) (defScope s__law_free) .none kV_law_free dc_law_free pm_law_free an_law_free cd_law_free ct_law_free), sl_law_free⟩)
    (c__law_free : PySem.W.codeIn K cd_law_free "_law_free" = true)
    (k__law_free : PySem.W.keepIn K (.ref f_law_free) = true)
    (a__law_copy : PySem.W.nsIn K mainGlobals "_law_copy" = some (some (.ref f_law_copy)))
    (l__law_copy : K.lookup f_law_copy = some ⟨oc_law_copy, od_law_copy, .func (PySem.W.fnOf "_law_copy" "_law_copy" (defArgs s__law_copy) (defBody s__law_copy) (defScope s__law_copy) .none kV_law_copy dc_law_copy pm_law_copy an_law_copy cd_law_copy ct_law_copy), sl_law_copy⟩)
    (c__law_copy : PySem.W.codeIn K cd_law_copy "_law_copy" = true)
    (k__law_copy : PySem.W.keepIn K (.ref f_law_copy) = true)
    (a__law_allocated : PySem.W.nsIn K mainGlobals "_law_allocated" = some (some (.ref f_law_allocated)))
    (l__law_allocated : K.lookup f_law_allocated = some ⟨oc_law_allocated, od_law_allocated, .func (PySem.W.fnOf "_law_allocated" "_law_allocated" (defArgs s__law_allocated) (defBody s__law_allocated) (defScope s__law_allocated) .none kV_law_allocated dc_law_allocated pm_law_allocated an_law_allocated cd_law_allocated ct_law_allocated), sl_law_allocated⟩)
    (c__law_allocated : PySem.W.codeIn K cd_law_allocated "_law_allocated" = true)
    (k__law_allocated : PySem.W.keepIn K (.ref f_law_allocated) = true)
    (a__law_changed : PySem.W.nsIn K mainGlobals "_law_changed" = some (some (.ref f_law_changed)))
    (l__law_changed : K.lookup f_law_changed = some ⟨oc_law_changed, od_law_changed, .func (PySem.W.fnOf "_law_changed" "_law_changed" (defArgs s__law_changed) (defBody s__law_changed) (defScope s__law_changed) .none kV_law_changed dc_law_changed pm_law_changed an_law_changed cd_law_changed ct_law_changed), sl_law_changed⟩)
    (c__law_changed : PySem.W.codeIn K cd_law_changed "_law_changed" = true)
    (k__law_changed : PySem.W.keepIn K (.ref f_law_changed) = true)
    (a__law_agrees : PySem.W.nsIn K mainGlobals "_law_agrees" = some (some (.ref f_law_agrees)))
    (l__law_agrees : K.lookup f_law_agrees = some ⟨oc_law_agrees, od_law_agrees, .func (PySem.W.fnOf "_law_agrees" "_law_agrees" (defArgs s__law_agrees) (defBody s__law_agrees) (defScope s__law_agrees) .none kV_law_agrees dc_law_agrees pm_law_agrees an_law_agrees cd_law_agrees ct_law_agrees), sl_law_agrees⟩)
    (c__law_agrees : PySem.W.codeIn K cd_law_agrees "_law_agrees" = true)
    (k__law_agrees : PySem.W.keepIn K (.ref f_law_agrees) = true)
    (a__law_deed : PySem.W.nsIn K mainGlobals "_law_deed" = some (some (.ref f_law_deed)))
    (l__law_deed : K.lookup f_law_deed = some ⟨oc_law_deed, od_law_deed, .func (PySem.W.fnOf "_law_deed" "_law_deed" (defArgs s__law_deed) (defBody s__law_deed) (defScope s__law_deed) .none kV_law_deed dc_law_deed pm_law_deed an_law_deed cd_law_deed ct_law_deed), sl_law_deed⟩)
    (c__law_deed : PySem.W.codeIn K cd_law_deed "_law_deed" = true)
    (k__law_deed : PySem.W.keepIn K (.ref f_law_deed) = true)
    (a_law : PySem.W.nsIn K mainGlobals "law" = some (some (.ref flaw)))
    (l_law : K.lookup flaw = some ⟨oclaw, odlaw, .func (PySem.W.fnOf "law" "law" (defArgs s_law) (defBody s_law) (defScope s_law) .none kVlaw dclaw pmlaw anlaw cdlaw ctlaw), sllaw⟩)
    (c_law : PySem.W.codeIn K cdlaw "law" = true)
    (k_law : PySem.W.keepIn K (.ref flaw) = true)
    (qkb_RR : PySem.W.kitOne K (.ref C_NoRoom) (.ref C_NoRoom) = some true)
    (qkb_NR : PySem.W.kitOne K (.ref C_NoNumber) (.ref C_NoRoom) = some false)
    (qkb_NN : PySem.W.kitOne K (.ref C_NoNumber) (.ref C_NoNumber) = some true)
    (qem_RS : PySem.W.exmOne K (.ref C_NoRoom) (.ref C_SaggarError) = some true)
    (qem_NS : PySem.W.exmOne K (.ref C_NoNumber) (.ref C_SaggarError) = some true)
    (qem_NN : PySem.W.exmOne K (.ref C_NoNumber) (.ref C_NoNumber) = some true) : Wd l.prog K mg :=
  { n_bool := PySem.W.mg_none_of X G z_bool,
    n_dict := PySem.W.mg_none_of X G z_dict,
    n_int := PySem.W.mg_none_of X G z_int,
    n_isinstance := PySem.W.mg_none_of X G z_isinstance,
    n_len := PySem.W.mg_none_of X G z_len,
    n_list := PySem.W.mg_none_of X G z_list,
    n_min := PySem.W.mg_none_of X G z_min,
    n_range := PySem.W.mg_none_of X G z_range,
    n_sorted := PySem.W.mg_none_of X G z_sorted,
    n_str := PySem.W.mg_none_of X G z_str,
    t_NIL := t_NIL, g_NIL := PySem.W.mg_of X G c_NIL,
    t_HEADER := t_HEADER, g_HEADER := PySem.W.mg_of X G c_HEADER,
    c_SaggarError := C_SaggarError, g_SaggarError := PySem.W.mg_of X G cl_SaggarError,
    c_NoRoom := C_NoRoom, g_NoRoom := PySem.W.mg_of X G cl_NoRoom,
    c_NoNumber := C_NoNumber, g_NoNumber := PySem.W.mg_of X G cl_NoNumber,
    c_Store := C_Store, g_Store := PySem.W.mg_of X G cl_Store,
    C_Store := ⟨pg_Store, hd_Store, po_Store, sa_Store⟩,
    na_Store_room := na_Store_room,
    na_Store_entries := na_Store_entries,
    na_Store_words := na_Store_words,
    na_Store__places := na_Store__places,
    na_Store__least := na_Store__least,
    X_NoRoom := ⟨⟨_, _, _, _, _, _, _, _, _, _, _, _, _, _, _, xl_NoRoom, xr_NoRoom⟩, xs_NoRoom, xe_NoRoom, xt_NoRoom, xk_NoRoom⟩,
    i_NoRoom := ⟨a_NoRoom___init__, k_NoRoom___init__⟩,
    cc_NoRoom := ccNoRoom___init__, cda_NoRoom := cdaNoRoom___init__,
    S_NoRoom := { ox := ⟨⟨_, _, _, _, _, _, _, _, _, _, _, _, _, _, _, xl_NoRoom, xr_NoRoom⟩, xs_NoRoom, xe_NoRoom, xt_NoRoom, xk_NoRoom⟩, code := ⟨_, _, _, _, _, _, x1_NoRoom___init__, x2_NoRoom___init__, x3_NoRoom___init__⟩, cell := ⟨_, _, _, x4_NoRoom___init__⟩, cls := ⟨_, by unfold PySem.W.clsIn; rw [xl_NoRoom] <;> rfl⟩, sub := xm_NoRoom, init := xi_NoRoom, isB := xb_NoRoom, third := z_third, mgS := PySem.W.mg_none_of X G z_super, hks := by decide +kernel, hkc := by decide +kernel, htop := z_top },
    f_NoRoom___init__ := fNoRoom___init__, fd_NoRoom___init__ := _, L_NoRoom := ⟨_, _, _, _, _, _, _, _, l_NoRoom___init__, rfl, c_NoRoom___init__⟩,
    E_NoRoom := ⟨⟨⟨_, _, _, _, _, _, _, _, _, _, _, _, _, _, _, xl_NoRoom, xr_NoRoom⟩, xs_NoRoom, xe_NoRoom, xt_NoRoom, xk_NoRoom⟩, eg_NoRoom, ek_NoRoom, ed_NoRoom, ea_NoRoom, z_sg, z_st, em_NoRoom⟩,
    xn_NoRoom_need := xn_NoRoom_need,
    b_NoRoom___init__ := .all fun us hl => match us, hl with | [_, _], _ => rfl,
    X_NoNumber := ⟨⟨_, _, _, _, _, _, _, _, _, _, _, _, _, _, _, xl_NoNumber, xr_NoNumber⟩, xs_NoNumber, xe_NoNumber, xt_NoNumber, xk_NoNumber⟩,
    i_NoNumber := ⟨a_NoNumber___init__, k_NoNumber___init__⟩,
    cc_NoNumber := ccNoNumber___init__, cda_NoNumber := cdaNoNumber___init__,
    S_NoNumber := { ox := ⟨⟨_, _, _, _, _, _, _, _, _, _, _, _, _, _, _, xl_NoNumber, xr_NoNumber⟩, xs_NoNumber, xe_NoNumber, xt_NoNumber, xk_NoNumber⟩, code := ⟨_, _, _, _, _, _, x1_NoNumber___init__, x2_NoNumber___init__, x3_NoNumber___init__⟩, cell := ⟨_, _, _, x4_NoNumber___init__⟩, cls := ⟨_, by unfold PySem.W.clsIn; rw [xl_NoNumber] <;> rfl⟩, sub := xm_NoNumber, init := xi_NoNumber, isB := xb_NoNumber, third := z_third, mgS := PySem.W.mg_none_of X G z_super, hks := by decide +kernel, hkc := by decide +kernel, htop := z_top },
    f_NoNumber___init__ := fNoNumber___init__, fd_NoNumber___init__ := _, L_NoNumber := ⟨_, _, _, _, _, _, _, _, l_NoNumber___init__, rfl, c_NoNumber___init__⟩,
    E_NoNumber := ⟨⟨⟨_, _, _, _, _, _, _, _, _, _, _, _, _, _, _, xl_NoNumber, xr_NoNumber⟩, xs_NoNumber, xe_NoNumber, xt_NoNumber, xk_NoNumber⟩, eg_NoNumber, ek_NoNumber, ed_NoNumber, ea_NoNumber, z_sg, z_st, em_NoNumber⟩,
    xn_NoNumber_limit := xn_NoNumber_limit,
    b_NoNumber___init__ := .all fun us hl => match us, hl with | [_, _], _ => rfl,
    f_Store___init__ := fStore___init__, fd_Store___init__ := _, F_Store___init__ := fun_mk (st := s_Store___init__) l_Store___init__ c_Store___init__ k_Store___init__,
    M_Store := ⟨mk_Store, a_Store___init__, fn_Store___init__, kp_Store⟩,
    b_Store___init__ := (fun_mk (st := s_Store___init__) l_Store___init__ c_Store___init__ k_Store___init__).binds (ps := ["self", "room", "entries"]) fun _ _ _ _ _ _ us hl => match us, hl with | [_, _, _], _ => rfl,
    f_Store_used := fStore_used, fd_Store_used := _, F_Store_used := fun_mk (st := s_Store_used) l_Store_used c_Store_used k_Store_used,
    m_Store_used := ⟨a_Store_used, fn_Store_used, k_Store_used⟩,
    b_Store_used := (fun_mk (st := s_Store_used) l_Store_used c_Store_used k_Store_used).binds (ps := ["self"]) fun _ _ _ _ _ _ us hl => match us, hl with | [_], _ => rfl,
    f_Store_exists := fStore_exists, fd_Store_exists := _, F_Store_exists := fun_mk (st := s_Store_exists) l_Store_exists c_Store_exists k_Store_exists,
    m_Store_exists := ⟨a_Store_exists, fn_Store_exists, k_Store_exists⟩,
    b_Store_exists := (fun_mk (st := s_Store_exists) l_Store_exists c_Store_exists k_Store_exists).binds (ps := ["self", "number"]) fun _ _ _ _ _ _ us hl => match us, hl with | [_, _], _ => rfl,
    f_Store_numbers := fStore_numbers, fd_Store_numbers := _, F_Store_numbers := fun_mk (st := s_Store_numbers) l_Store_numbers c_Store_numbers k_Store_numbers,
    m_Store_numbers := ⟨a_Store_numbers, fn_Store_numbers, k_Store_numbers⟩,
    b_Store_numbers := (fun_mk (st := s_Store_numbers) l_Store_numbers c_Store_numbers k_Store_numbers).binds (ps := ["self"]) fun _ _ _ _ _ _ us hl => match us, hl with | [_], _ => rfl,
    f_Store_free_number := fStore_free_number, fd_Store_free_number := _, F_Store_free_number := fun_mk (st := s_Store_free_number) l_Store_free_number c_Store_free_number k_Store_free_number,
    m_Store_free_number := ⟨a_Store_free_number, fn_Store_free_number, k_Store_free_number⟩,
    b_Store_free_number := (fun_mk (st := s_Store_free_number) l_Store_free_number c_Store_free_number k_Store_free_number).binds (ps := ["self"]) fun _ _ _ _ _ _ us hl => match us, hl with | [_], _ => rfl,
    f_Store_allocate := fStore_allocate, fd_Store_allocate := _, F_Store_allocate := fun_mk (st := s_Store_allocate) l_Store_allocate c_Store_allocate k_Store_allocate,
    m_Store_allocate := ⟨a_Store_allocate, fn_Store_allocate, k_Store_allocate⟩,
    b_Store_allocate := (fun_mk (st := s_Store_allocate) l_Store_allocate c_Store_allocate k_Store_allocate).binds (ps := ["self", "kind", "size"]) fun _ _ _ _ _ _ us hl => match us, hl with | [_, _, _], _ => rfl,
    f_Store_size := fStore_size, fd_Store_size := _, F_Store_size := fun_mk (st := s_Store_size) l_Store_size c_Store_size k_Store_size,
    m_Store_size := ⟨a_Store_size, fn_Store_size, k_Store_size⟩,
    b_Store_size := (fun_mk (st := s_Store_size) l_Store_size c_Store_size k_Store_size).binds (ps := ["self", "number"]) fun _ _ _ _ _ _ us hl => match us, hl with | [_, _], _ => rfl,
    f_Store_kind := fStore_kind, fd_Store_kind := _, F_Store_kind := fun_mk (st := s_Store_kind) l_Store_kind c_Store_kind k_Store_kind,
    m_Store_kind := ⟨a_Store_kind, fn_Store_kind, k_Store_kind⟩,
    b_Store_kind := (fun_mk (st := s_Store_kind) l_Store_kind c_Store_kind k_Store_kind).binds (ps := ["self", "number"]) fun _ _ _ _ _ _ us hl => match us, hl with | [_, _], _ => rfl,
    f_Store_set_kind := fStore_set_kind, fd_Store_set_kind := _, F_Store_set_kind := fun_mk (st := s_Store_set_kind) l_Store_set_kind c_Store_set_kind k_Store_set_kind,
    m_Store_set_kind := ⟨a_Store_set_kind, fn_Store_set_kind, k_Store_set_kind⟩,
    b_Store_set_kind := (fun_mk (st := s_Store_set_kind) l_Store_set_kind c_Store_set_kind k_Store_set_kind).binds (ps := ["self", "number", "word"]) fun _ _ _ _ _ _ us hl => match us, hl with | [_, _, _], _ => rfl,
    f_Store_get := fStore_get, fd_Store_get := _, F_Store_get := fun_mk (st := s_Store_get) l_Store_get c_Store_get k_Store_get,
    m_Store_get := ⟨a_Store_get, fn_Store_get, k_Store_get⟩,
    b_Store_get := (fun_mk (st := s_Store_get) l_Store_get c_Store_get k_Store_get).binds (ps := ["self", "number", "at"]) fun _ _ _ _ _ _ us hl => match us, hl with | [_, _, _], _ => rfl,
    f_Store_put := fStore_put, fd_Store_put := _, F_Store_put := fun_mk (st := s_Store_put) l_Store_put c_Store_put k_Store_put,
    m_Store_put := ⟨a_Store_put, fn_Store_put, k_Store_put⟩,
    b_Store_put := (fun_mk (st := s_Store_put) l_Store_put c_Store_put k_Store_put).binds (ps := ["self", "number", "at", "word"]) fun _ _ _ _ _ _ us hl => match us, hl with | [_, _, _, _], _ => rfl,
    f_Store_slots := fStore_slots, fd_Store_slots := _, F_Store_slots := fun_mk (st := s_Store_slots) l_Store_slots c_Store_slots k_Store_slots,
    m_Store_slots := ⟨a_Store_slots, fn_Store_slots, k_Store_slots⟩,
    b_Store_slots := (fun_mk (st := s_Store_slots) l_Store_slots c_Store_slots k_Store_slots).binds (ps := ["self", "number"]) fun _ _ _ _ _ _ us hl => match us, hl with | [_, _], _ => rfl,
    f_Store_drop := fStore_drop, fd_Store_drop := _, F_Store_drop := fun_mk (st := s_Store_drop) l_Store_drop c_Store_drop k_Store_drop,
    m_Store_drop := ⟨a_Store_drop, fn_Store_drop, k_Store_drop⟩,
    b_Store_drop := (fun_mk (st := s_Store_drop) l_Store_drop c_Store_drop k_Store_drop).binds (ps := ["self", "number"]) fun _ _ _ _ _ _ us hl => match us, hl with | [_, _], _ => rfl,
    f_Store_close_up := fStore_close_up, fd_Store_close_up := _, F_Store_close_up := fun_mk (st := s_Store_close_up) l_Store_close_up c_Store_close_up k_Store_close_up, cA_Store_close_up := cAStore_close_up, PT_Store_close_up := PTStore_close_up, hd_Store_close_up := x3_Store_close_up, np_Store_close_up := x4_Store_close_up, G_Store_close_up := ⟨_, _, _, _, _, _, _, _, rfl, l_Store_close_up, c_Store_close_up⟩,
    m_Store_close_up := ⟨a_Store_close_up, fn_Store_close_up, k_Store_close_up⟩,
    b_Store_close_up := (fun_mk (st := s_Store_close_up) l_Store_close_up c_Store_close_up k_Store_close_up).binds (ps := ["self"]) fun _ _ _ _ _ _ us hl => match us, hl with | [_], _ => rfl,
    f_Store_snapshot := fStore_snapshot, fd_Store_snapshot := _, F_Store_snapshot := fun_mk (st := s_Store_snapshot) l_Store_snapshot c_Store_snapshot k_Store_snapshot,
    m_Store_snapshot := ⟨a_Store_snapshot, fn_Store_snapshot, k_Store_snapshot⟩,
    b_Store_snapshot := (fun_mk (st := s_Store_snapshot) l_Store_snapshot c_Store_snapshot k_Store_snapshot).binds (ps := ["self"]) fun _ _ _ _ _ _ us hl => match us, hl with | [_], _ => rfl,
    f_Store_restore := fStore_restore, fd_Store_restore := _, F_Store_restore := fun_mk (st := s_Store_restore) l_Store_restore c_Store_restore k_Store_restore,
    m_Store_restore := ⟨a_Store_restore, fn_Store_restore, k_Store_restore⟩,
    b_Store_restore := (fun_mk (st := s_Store_restore) l_Store_restore c_Store_restore k_Store_restore).binds (ps := ["self", "snapshot"]) fun _ _ _ _ _ _ us hl => match us, hl with | [_, _], _ => rfl,
    f_Store_exchange := fStore_exchange, fd_Store_exchange := _, F_Store_exchange := fun_mk (st := s_Store_exchange) l_Store_exchange c_Store_exchange k_Store_exchange,
    m_Store_exchange := ⟨a_Store_exchange, fn_Store_exchange, k_Store_exchange⟩,
    b_Store_exchange := (fun_mk (st := s_Store_exchange) l_Store_exchange c_Store_exchange k_Store_exchange).binds (ps := ["self", "first", "second"]) fun _ _ _ _ _ _ us hl => match us, hl with | [_, _, _], _ => rfl,
    f__law_number := f_law_number, fd__law_number := _, F__law_number := fun_mk (st := s__law_number) l__law_number c__law_number k__law_number,
    g__law_number := PySem.W.mg_of X G a__law_number,
    b__law_number := (fun_mk (st := s__law_number) l__law_number c__law_number k__law_number).binds (ps := ["_law_cell", "_law_k"]) fun _ _ _ _ _ _ us hl => match us, hl with | [_, _], _ => rfl,
    f__law_deeds := f_law_deeds, fd__law_deeds := _, F__law_deeds := fun_mk (st := s__law_deeds) l__law_deeds c__law_deeds k__law_deeds,
    g__law_deeds := PySem.W.mg_of X G a__law_deeds,
    b__law_deeds := (fun_mk (st := s__law_deeds) l__law_deeds c__law_deeds k__law_deeds).binds (ps := ["_law_cell", "_law_k"]) fun _ _ _ _ _ _ us hl => match us, hl with | [_, _], _ => rfl,
    f__law_word := f_law_word, fd__law_word := _, F__law_word := fun_mk (st := s__law_word) l__law_word c__law_word k__law_word,
    g__law_word := PySem.W.mg_of X G a__law_word,
    b__law_word := (fun_mk (st := s__law_word) l__law_word c__law_word k__law_word).binds (ps := ["_law_x"]) fun _ _ _ _ _ _ us hl => match us, hl with | [_], _ => rfl,
    f__law_is := f_law_is, fd__law_is := _, F__law_is := fun_mk (st := s__law_is) l__law_is c__law_is k__law_is,
    g__law_is := PySem.W.mg_of X G a__law_is,
    b__law_is := (fun_mk (st := s__law_is) l__law_is c__law_is k__law_is).binds (ps := ["_law_actual", "_law_due"]) fun _ _ _ _ _ _ us hl => match us, hl with | [_, _], _ => rfl,
    f__law_same := f_law_same, fd__law_same := _, F__law_same := fun_mk (st := s__law_same) l__law_same c__law_same k__law_same,
    g__law_same := PySem.W.mg_of X G a__law_same,
    b__law_same := (fun_mk (st := s__law_same) l__law_same c__law_same k__law_same).binds (ps := ["_law_actual", "_law_due"]) fun _ _ _ _ _ _ us hl => match us, hl with | [_, _], _ => rfl,
    f__law_flat := f_law_flat, fd__law_flat := _, F__law_flat := fun_mk (st := s__law_flat) l__law_flat c__law_flat k__law_flat,
    g__law_flat := PySem.W.mg_of X G a__law_flat,
    b__law_flat := (fun_mk (st := s__law_flat) l__law_flat c__law_flat k__law_flat).binds (ps := ["_law_row"]) fun _ _ _ _ _ _ us hl => match us, hl with | [_], _ => rfl,
    f__law_living := f_law_living, fd__law_living := _, F__law_living := fun_mk (st := s__law_living) l__law_living c__law_living k__law_living,
    g__law_living := PySem.W.mg_of X G a__law_living,
    b__law_living := (fun_mk (st := s__law_living) l__law_living c__law_living k__law_living).binds (ps := ["_law_row"]) fun _ _ _ _ _ _ us hl => match us, hl with | [_], _ => rfl,
    f__law_free := f_law_free, fd__law_free := _, F__law_free := fun_mk (st := s__law_free) l__law_free c__law_free k__law_free,
    g__law_free := PySem.W.mg_of X G a__law_free,
    b__law_free := (fun_mk (st := s__law_free) l__law_free c__law_free k__law_free).binds (ps := ["_law_row"]) fun _ _ _ _ _ _ us hl => match us, hl with | [_], _ => rfl,
    f__law_copy := f_law_copy, fd__law_copy := _, F__law_copy := fun_mk (st := s__law_copy) l__law_copy c__law_copy k__law_copy,
    g__law_copy := PySem.W.mg_of X G a__law_copy,
    b__law_copy := (fun_mk (st := s__law_copy) l__law_copy c__law_copy k__law_copy).binds (ps := ["_law_row"]) fun _ _ _ _ _ _ us hl => match us, hl with | [_], _ => rfl,
    f__law_allocated := f_law_allocated, fd__law_allocated := _, F__law_allocated := fun_mk (st := s__law_allocated) l__law_allocated c__law_allocated k__law_allocated,
    g__law_allocated := PySem.W.mg_of X G a__law_allocated,
    b__law_allocated := (fun_mk (st := s__law_allocated) l__law_allocated c__law_allocated k__law_allocated).binds (ps := ["_law_store", "_law_row", "_law_limits", "_law_kind", "_law_size"]) fun _ _ _ _ _ _ us hl => match us, hl with | [_, _, _, _, _], _ => rfl,
    f__law_changed := f_law_changed, fd__law_changed := _, F__law_changed := fun_mk (st := s__law_changed) l__law_changed c__law_changed k__law_changed,
    g__law_changed := PySem.W.mg_of X G a__law_changed,
    b__law_changed := (fun_mk (st := s__law_changed) l__law_changed c__law_changed k__law_changed).binds (ps := ["_law_store", "_law_row", "_law_taken", "_law_deed_here", "_law_x"]) fun _ _ _ _ _ _ us hl => match us, hl with | [_, _, _, _, _], _ => rfl,
    f__law_agrees := f_law_agrees, fd__law_agrees := _, F__law_agrees := fun_mk (st := s__law_agrees) l__law_agrees c__law_agrees k__law_agrees,
    g__law_agrees := PySem.W.mg_of X G a__law_agrees,
    b__law_agrees := (fun_mk (st := s__law_agrees) l__law_agrees c__law_agrees k__law_agrees).binds (ps := ["_law_store", "_law_row", "_law_entries", "_law_x"]) fun _ _ _ _ _ _ us hl => match us, hl with | [_, _, _, _], _ => rfl,
    f__law_deed := f_law_deed, fd__law_deed := _, F__law_deed := fun_mk (st := s__law_deed) l__law_deed c__law_deed k__law_deed,
    g__law_deed := PySem.W.mg_of X G a__law_deed,
    b__law_deed := (fun_mk (st := s__law_deed) l__law_deed c__law_deed k__law_deed).binds (ps := ["_law_store", "_law_row", "_law_taken", "_law_limits", "_law_x"]) fun _ _ _ _ _ _ us hl => match us, hl with | [_, _, _, _, _], _ => rfl,
    f_law := flaw, fd_law := _, F_law := fun_mk (st := s_law) l_law c_law k_law,
    g_law := PySem.W.mg_of X G a_law,
    b_law := (fun_mk (st := s_law) l_law c_law k_law).binds (ps := ["_law_script"]) fun _ _ _ _ _ _ us hl => match us, hl with | [_], _ => rfl,
    kb_RR := qkb_RR,
    kb_NR := qkb_NR,
    kb_NN := qkb_NN,
    em_RS := qem_RS,
    em_NS := qem_NS,
    em_NN := qem_NN }

structure WT (P : Program) (K : PySem.W.Frag) (mg : Str → Option Value) (base : Heap) extends Wd P K mg where
  TB : LamX.TabB base mg cA_Store_close_up PT_Store_close_up
abbrev qLam : Str := (envOfC "Store.close_up" (defScope s_Store_close_up) 0 0 .none).qual ++ "<lambda>"
section
variable {P : Program} {w : World} {K : PySem.W.Frag} {mg : Str → Option Value} {base : Heap}
theorem ok_NoRoom___init__ (W : WT P K mg base) : FnOk P w K mg base CX0 1 W.f_NoRoom___init__ W.fd_NoRoom___init__ ["self", "need"] (sp_exc1 W.c_NoRoom "need") := by
  obtain ⟨oc, od, kV, dc, pm, an, ct, osl, lk, efd, hcd⟩ := W.L_NoRoom
  rw [efd] at lk ⊢
  refine fn_sup lk hcd ns_NoRoom___init__ W.S_NoRoom rfl rfl (pl := fun env => plainOf _ env) (fun L => rfl) (fun env => rfl) (fun env => rfl) (fun L => rfl) (fun L => rfl) (fun vs H Q E h => ?_) (fun A outer s H vs Q E hr h => ?_)
  · obtain ⟨a, x, rfl, _⟩ := h
    rfl
  · obtain ⟨a, x, rfl, hx, ha, k⟩ := h
    refine ⟨_, _, (pa_cons (pe_callTy call_strU (by rfl) W.n_str bb_str (pa_cons (pv 1) pa_nil)) pa_nil), pss_one (ps_ost (pv 0) (pv 1)), ?_⟩
    refine ⟨a, rfl, ha, ?_⟩
    have fin : sizeLine ≥ 1 := (by show 1 ≤ sizeLine; decide)
    cases x with
    | int i => exact ⟨_, rfl, hx, fin, ha, _, rfl, _, rfl, a, _, rfl, W.X_NoRoom, W.xn_NoRoom_need, Or.inl ⟨ha, fun dx h1 h2 => k dx h1 h2⟩⟩
    | str z => exact ⟨_, rfl, fin, ha, _, rfl, _, rfl, a, _, rfl, W.X_NoRoom, W.xn_NoRoom_need, Or.inl ⟨ha, fun dx h1 h2 => k dx h1 h2⟩⟩
    | _ => exact hx.elim
theorem ok_NoNumber___init__ (W : WT P K mg base) : FnOk P w K mg base CX0 1 W.f_NoNumber___init__ W.fd_NoNumber___init__ ["self", "limit"] (sp_exc1 W.c_NoNumber "limit") := by
  obtain ⟨oc, od, kV, dc, pm, an, ct, osl, lk, efd, hcd⟩ := W.L_NoNumber
  rw [efd] at lk ⊢
  refine fn_sup lk hcd ns_NoNumber___init__ W.S_NoNumber rfl rfl (pl := fun env => plainOf _ env) (fun L => rfl) (fun env => rfl) (fun env => rfl) (fun L => rfl) (fun L => rfl) (fun vs H Q E h => ?_) (fun A outer s H vs Q E hr h => ?_)
  · obtain ⟨a, x, rfl, _⟩ := h
    rfl
  · obtain ⟨a, x, rfl, hx, ha, k⟩ := h
    refine ⟨_, _, (pa_cons (pe_callTy call_strU (by rfl) W.n_str bb_str (pa_cons (pv 1) pa_nil)) pa_nil), pss_one (ps_ost (pv 0) (pv 1)), ?_⟩
    refine ⟨a, rfl, ha, ?_⟩
    have fin : sizeLine ≥ 1 := (by show 1 ≤ sizeLine; decide)
    cases x with
    | int i => exact ⟨_, rfl, hx, fin, ha, _, rfl, _, rfl, a, _, rfl, W.X_NoNumber, W.xn_NoNumber_limit, Or.inl ⟨ha, fun dx h1 h2 => k dx h1 h2⟩⟩
    | str z => exact ⟨_, rfl, fin, ha, _, rfl, _, rfl, a, _, rfl, W.X_NoNumber, W.xn_NoNumber_limit, Or.inl ⟨ha, fun dx h1 h2 => k dx h1 h2⟩⟩
    | _ => exact hx.elim
end

end LX
namespace LX
open PySem PySem.Spec PyProof.Rows L2 NdefX
section
variable {P : Program} {w : World} {K : PySem.W.Frag} {mg : Str → Option Value} {base : Heap}
def sF (room entries : Int) (wl pl : Addr) (least : Int) : List (Str × V) := [("room", .int room), ("entries", .int entries), ("words", .ref wl), ("_places", .ref pl), ("_least", .int least)]
structure StoreAt (H : Hp) (C st dx wl pl : Addr) (room entries least : Int) (ws : List Int) (kvs : List (Key × V)) : Prop where
  st : H st = some (.ins C dx (sF room entries wl pl least))
  wl : H wl = some (.lst (ws.map V.int))
  pl : H pl = some (.dK kvs)
theorem int_at {ws : List Int} {i : Nat} {z : Int} (h : ws[i]? = some z) : (ws.map V.int)[i]? = some (V.int z) := by rw [List.getElem?_map, h]; rfl
theorem ixN_nat {n i : Nat} (h : i < n) : ixN n (i : Int) = some i := by
  unfold ixN
  rw [if_pos (by omega), if_pos (by omega)]
  simp
def sp_exists : Addr → Sp := fun C vs H Q _ => ∃ st dx wl pl room entries least ws kvs n, vs = [.ref st, .int n] ∧ StoreAt H C st dx wl pl room entries least ws kvs ∧ Q (.bl (valV kvs (.inl n)).isSome) H
theorem ok_Store_exists (W : WT P K mg base) : FnOk P w K mg base CX0 1 W.f_Store_exists W.fd_Store_exists ["self", "number"] (sp_exists W.c_Store) := by
  refine W.F_Store_exists.ok sc_Store_exists (fun vs H Q E h => ?_) (fun cdv A outer s H vs Q E hr h => ?_)
  · obtain ⟨st, dx, wl, pl, room, entries, least, ws, kvs, n, rfl, _⟩ := h
    rfl
  · obtain ⟨st, dx, wl, pl, room, entries, least, ws, kvs, n, rfl, S, k⟩ := h
    have hu1 := hu_of hr
    have hu64 := hu64_of hr
    refine ⟨_, (pss_one (ps_ret (pe_cmpR (op_inU hu1) (pv 1) (pe_fld (pv 0) rfl) (by first | exact nomark _ | rfl)))), ?_⟩
    refine ⟨_, rfl, _, rfl, st, _, dx, _, _, rfl, S.st, W.C_Store, W.na_Store__places, rfl, ?_⟩
    exact Or.inr ⟨_, DGet.k (k := Sum.inl n) S.pl, k⟩
def sp_size : Addr → Sp := fun C vs H Q _ => ∃ st dx wl pl room entries least ws kvs n, ∃ (p : Nat) (z : Int), vs = [.ref st, .int n] ∧ StoreAt H C st dx wl pl room entries least ws kvs ∧ valV kvs (.inl n) = some (.int (p : Int)) ∧ ws[p + 1]? = some z ∧ Q (.int z) H
theorem ok_Store_size (W : WT P K mg base) : FnOk P w K mg base CX0 1 W.f_Store_size W.fd_Store_size ["self", "number"] (sp_size W.c_Store) := by
  refine W.F_Store_size.ok sc_Store_size (fun vs H Q E h => ?_) (fun cdv A outer s H vs Q E hr h => ?_)
  · obtain ⟨st, dx, wl, pl, room, entries, least, ws, kvs, n, p, z, rfl, _⟩ := h
    rfl
  · obtain ⟨st, dx, wl, pl, room, entries, least, ws, kvs, n, p, z, rfl, S, hp, hz, k⟩ := h
    have hu1 := hu_of hr
    have hu64 := hu64_of hr
    refine ⟨_, (pss_one (ps_ret (pe_ix (ix_U hu1) (pe_fld (pv 0) rfl) (pe_op op_addU (pe_ix (ix_U hu1) (pe_fld (pv 0) rfl) (pv 1) (fun _ _ => rfl)) pe_int) (fun _ _ => rfl)))), ?_⟩
    refine ⟨_, rfl, st, _, dx, _, _, rfl, S.st, W.C_Store, W.na_Store_words, rfl, ?_⟩
    refine ⟨_, rfl, st, _, dx, _, _, rfl, S.st, W.C_Store, W.na_Store__places, rfl, ?_⟩
    refine ⟨_, rfl, Or.inr ⟨_, by rw [← hp]; exact DGet.k (k := Sum.inl n) S.pl, ?_⟩⟩
    exact Or.inl ⟨_, _, _, rfl, Or.inl (SqL.of S.wl), atI_nat (j := p + 1) (int_at hz), k⟩
def sp_kind : Addr → Sp := fun C vs H Q _ => ∃ st dx wl pl room entries least ws kvs n, ∃ (p : Nat) (z : Int), vs = [.ref st, .int n] ∧ StoreAt H C st dx wl pl room entries least ws kvs ∧ valV kvs (.inl n) = some (.int (p : Int)) ∧ ws[p + 2]? = some z ∧ Q (.int z) H
theorem ok_Store_kind (W : WT P K mg base) : FnOk P w K mg base CX0 1 W.f_Store_kind W.fd_Store_kind ["self", "number"] (sp_kind W.c_Store) := by
  refine W.F_Store_kind.ok sc_Store_kind (fun vs H Q E h => ?_) (fun cdv A outer s H vs Q E hr h => ?_)
  · obtain ⟨st, dx, wl, pl, room, entries, least, ws, kvs, n, p, z, rfl, _⟩ := h
    rfl
  · obtain ⟨st, dx, wl, pl, room, entries, least, ws, kvs, n, p, z, rfl, S, hp, hz, k⟩ := h
    have hu1 := hu_of hr
    have hu64 := hu64_of hr
    refine ⟨_, (pss_one (ps_ret (pe_ix (ix_U hu1) (pe_fld (pv 0) rfl) (pe_op op_addU (pe_ix (ix_U hu1) (pe_fld (pv 0) rfl) (pv 1) (fun _ _ => rfl)) pe_int) (fun _ _ => rfl)))), ?_⟩
    refine ⟨_, rfl, st, _, dx, _, _, rfl, S.st, W.C_Store, W.na_Store_words, rfl, ?_⟩
    refine ⟨_, rfl, st, _, dx, _, _, rfl, S.st, W.C_Store, W.na_Store__places, rfl, ?_⟩
    refine ⟨_, rfl, Or.inr ⟨_, by rw [← hp]; exact DGet.k (k := Sum.inl n) S.pl, ?_⟩⟩
    exact Or.inl ⟨_, _, _, rfl, Or.inl (SqL.of S.wl), atI_nat (j := p + 2) (int_at hz), k⟩
def sp_set_kind : Addr → Sp := fun C vs H Q _ => ∃ st dx wl pl room entries least ws kvs n, ∃ (p : Nat) (x : Int), vs = [.ref st, .int n, .int x] ∧ StoreAt H C st dx wl pl room entries least ws kvs ∧ valV kvs (.inl n) = some (.int (p : Int)) ∧ p + 2 < ws.length ∧ Q .non (upd H wl (.lst ((ws.set (p + 2) x).map V.int)))
theorem set_int (ws : List Int) (i : Nat) (x : Int) : (ws.map V.int).set i (.int x) = (ws.set i x).map V.int := by rw [List.map_set]
theorem ok_Store_set_kind (W : WT P K mg base) : FnOk P w K mg base CX0 1 W.f_Store_set_kind W.fd_Store_set_kind ["self", "number", "word"] (sp_set_kind W.c_Store) := by
  refine W.F_Store_set_kind.ok sc_Store_set_kind (fun vs H Q E h => ?_) (fun cdv A outer s H vs Q E hr h => ?_)
  · obtain ⟨st, dx, wl, pl, room, entries, least, ws, kvs, n, p, z, rfl, _⟩ := h
    rfl
  · obtain ⟨st, dx, wl, pl, room, entries, least, ws, kvs, n, p, z, rfl, S, hp, hz, k⟩ := h
    have hu1 := hu_of hr
    have hu64 := hu64_of hr
    refine ⟨_, (pss_one (ps_asg (pv 2) (pg_sub (pe_fld (pv 0) rfl) (pe_op op_addU (pe_ix (ix_U hu1) (pe_fld (pv 0) rfl) (pv 1) (fun _ _ => rfl)) pe_int) set_list))), ?_⟩
    refine ⟨_, rfl, ?_⟩
    refine ⟨_, rfl, st, _, dx, _, _, rfl, S.st, W.C_Store, W.na_Store_words, rfl, ?_⟩
    refine ⟨_, rfl, st, _, dx, _, _, rfl, S.st, W.C_Store, W.na_Store__places, rfl, ?_⟩
    refine ⟨_, rfl, Or.inr ⟨_, by rw [← hp]; exact DGet.k (k := Sum.inl n) S.pl, ?_⟩⟩
    refine ⟨wl, _, _, p + 2, rfl, rfl, S.wl, ixN_nat (i := p + 2) (by rw [List.length_map]; exact hz), ?_⟩
    rw [set_int]
    exact k
def sp_put : Addr → Sp := fun C vs H Q _ => ∃ st dx wl pl room entries least ws kvs n, ∃ (p a : Nat) (x : Int), vs = [.ref st, .int n, .int (a : Int), .int x] ∧ StoreAt H C st dx wl pl room entries least ws kvs ∧ valV kvs (.inl n) = some (.int (p : Int)) ∧ p + 3 + a < ws.length ∧ Q .non (upd H wl (.lst ((ws.set (p + 3 + a) x).map V.int)))
theorem ok_Store_put (W : WT P K mg base) : FnOk P w K mg base CX0 1 W.f_Store_put W.fd_Store_put ["self", "number", "at", "word"] (sp_put W.c_Store) := by
  refine W.F_Store_put.ok sc_Store_put (fun vs H Q E h => ?_) (fun cdv A outer s H vs Q E hr h => ?_)
  · obtain ⟨st, dx, wl, pl, room, entries, least, ws, kvs, n, p, a, z, rfl, _⟩ := h
    rfl
  · obtain ⟨st, dx, wl, pl, room, entries, least, ws, kvs, n, p, a, z, rfl, S, hp, hz, k⟩ := h
    have hu1 := hu_of hr
    have hu64 := hu64_of hr
    refine ⟨_, (pss_one (ps_asg (pv 3) (pg_sub (pe_fld (pv 0) rfl) (pe_op op_addU (pe_op op_addU (pe_ix (ix_U hu1) (pe_fld (pv 0) rfl) (pv 1) (fun _ _ => rfl)) (pe_gi rfl W.g_HEADER)) (pv 2)) set_list))), ?_⟩
    refine ⟨_, rfl, ?_⟩
    refine ⟨_, rfl, st, _, dx, _, _, rfl, S.st, W.C_Store, W.na_Store_words, rfl, ?_⟩
    refine ⟨_, rfl, st, _, dx, _, _, rfl, S.st, W.C_Store, W.na_Store__places, rfl, ?_⟩
    refine ⟨_, rfl, Or.inr ⟨_, by rw [← hp]; exact DGet.k (k := Sum.inl n) S.pl, ?_⟩⟩
    refine ⟨_, rfl, ?_⟩
    refine ⟨wl, _, _, p + 3 + a, rfl, rfl, S.wl, ixN_nat (i := p + 3 + a) (by rw [List.length_map]; exact hz), ?_⟩
    rw [set_int]
    exact k
def seg (ws : List Int) (p n : Nat) : List Int := (ws.drop p).take n
theorem cut_seg {ws : List Int} {p n : Nat} (h : p + n ≤ ws.length) : cutV (ws.map V.int) (some (p : Int)) (some ((p : Int) + (n : Int))) = (seg ws p n).map V.int := by
  unfold cutV seg
  have h1 : HT.sIx (ws.map V.int).length 0 (some (p : Int)) = p := by rw [HT.sIx_nat, List.length_map]; omega
  have h2 : HT.sIx (ws.map V.int).length (ws.map V.int).length (some ((p : Int) + (n : Int))) = p + n := by
    have := HT.sIx_nat (ws.map V.int).length (ws.map V.int).length (p + n)
    rw [show ((p + n : Nat) : Int) = (p : Int) + (n : Int) by omega] at this
    rw [this, List.length_map]
    omega
  rw [h1, h2, List.map_take, List.map_drop, show p + n - p = n by omega]
def sp_slots : Addr → Sp := fun C vs H Q _ => ∃ st dx wl pl room entries least ws kvs n, ∃ (p z : Nat), vs = [.ref st, .int n] ∧ StoreAt H C st dx wl pl room entries least ws kvs ∧ valV kvs (.inl n) = some (.int (p : Int)) ∧ ws[p + 1]? = some (z : Int) ∧ p + 3 + z ≤ ws.length ∧
  ∀ q, H q = none → Q (.ref q) (upd H q (.lst ((seg ws (p + 3) z).map V.int)))
theorem ok_Store_slots (W : WT P K mg base) : FnOk P w K mg base CX0 2 W.f_Store_slots W.fd_Store_slots ["self", "number"] (sp_slots W.c_Store) := by
  refine W.F_Store_slots.ok sc_Store_slots (fun vs H Q E h => ?_) (fun cdv A outer s H vs Q E hr h => ?_)
  · obtain ⟨st, dx, wl, pl, room, entries, least, ws, kvs, n, p, z, rfl, _⟩ := h
    rfl
  · obtain ⟨st, dx, wl, pl, room, entries, least, ws, kvs, n, p, z, rfl, S, hp, hz, hl, k⟩ := h
    have hu1 := hu_of hr
    have hu64 := hu64_of hr
    refine ⟨_, (pss_cons (ps_set (i := 2) sc_Store_slots.nd rfl (by first | exact Or.inl rfl | exact Or.inr rfl) (pe_op op_addU (pe_ix (ix_U hu1) (pe_fld (pv 0) rfl) (pv 1) (fun _ _ => rfl)) (pe_gi rfl W.g_HEADER)))
      (pss_one (ps_ret (pe_slice sl_U (pe_fld (pv 0) rfl) (po_some (pv 2)) (po_some (pe_op op_addU (pv 2) (pe_meth (pv 0) W.C_Store W.m_Store_size (ok_Store_size W) (hr.mono (by decide)) W.b_Store_size .nil pass0 (pa_cons (pv 1) pa_nil)))))))), ?_⟩
    refine ⟨_, rfl, st, _, dx, _, _, rfl, S.st, W.C_Store, W.na_Store__places, rfl, ?_⟩
    refine ⟨_, rfl, Or.inr ⟨_, by rw [← hp]; exact DGet.k (k := Sum.inl n) S.pl, ?_⟩⟩
    refine ⟨_, rfl, st, _, dx, _, _, rfl, S.st, W.C_Store, W.na_Store_words, rfl, ?_⟩
    refine ⟨_, rfl, _, rfl, ?_⟩
    refine ⟨_, rfl, ?_⟩
    refine ⟨_, rfl, st, dx, _, rfl, S.st, rfl, ?_⟩
    refine ⟨_, rfl, ?_⟩
    refine ⟨st, dx, wl, pl, room, entries, least, ws, kvs, n, p, z, rfl, S, hp, hz, ?_⟩
    refine ⟨_, rfl, ?_⟩
    refine Or.inl ⟨wl, _, rfl, SqL.of S.wl, fun q hq => ?_⟩
    have e : cutV (ws.map V.int) (some ((p : Int) + 3)) (some ((p : Int) + 3 + (z : Int))) = (seg ws (p + 3) z).map V.int := cut_seg (p := p + 3) hl
    rw [e]
    exact k q hq
def sp_numbers : Addr → Sp := fun C vs H Q _ => ∃ st dx wl pl room entries least ws kvs, ∃ ns : List Int, vs = [.ref st] ∧ StoreAt H C st dx wl pl room entries least ws kvs ∧ kvs.map (·.1) = ns.map Sum.inl ∧
  ∀ (ns' : List Int) (p : Addr), ns'.Perm ns → ns'.Pairwise (· ≤ ·) → H p = none → Q (.ref p) (upd H p (.lst (ns'.map V.int)))
theorem ok_Store_numbers (W : WT P K mg base) : FnOk P w K mg base CX0 1 W.f_Store_numbers W.fd_Store_numbers ["self"] (sp_numbers W.c_Store) := by
  refine W.F_Store_numbers.ok sc_Store_numbers (fun vs H Q E h => ?_) (fun cdv A outer s H vs Q E hr h => ?_)
  · obtain ⟨st, dx, wl, pl, room, entries, least, ws, kvs, ns, rfl, _⟩ := h
    rfl
  · obtain ⟨st, dx, wl, pl, room, entries, least, ws, kvs, ns, rfl, S, hk, k⟩ := h
    have hu1 := hu_of hr
    have hu64 := hu64_of hr
    refine ⟨_, (pss_one (ps_ret (pe_callB (call_sortedU rfl) (by rfl) W.n_sorted bb_sorted (pa_cons (pe_fld (pv 0) rfl) pa_nil)))), ?_⟩
    refine ⟨_, rfl, st, _, dx, _, _, rfl, S.st, W.C_Store, W.na_Store__places, rfl, ?_⟩
    exact ⟨_, _, rfl, Or.inr ⟨kvs, Rd.of S.pl, hk⟩, k⟩
def sp_drop : Addr → Sp := fun C vs H Q _ => ∃ st dx wl pl room entries least ws kvs n, vs = [.ref st, .int n] ∧ StoreAt H C st dx wl pl room entries least ws kvs ∧ (valV kvs (.inl n)).isSome = true ∧
  ∀ H', StoreAt H' C st dx wl pl room entries (if n < least then n else least) ws (dropK kvs (.inl n)) → (∀ b, b ≠ st → b ≠ pl → H' b = H b) → Q .non H'
theorem ok_Store_drop (W : WT P K mg base) : FnOk P w K mg base CX0 1 W.f_Store_drop W.fd_Store_drop ["self", "number"] (sp_drop W.c_Store) := by
  refine W.F_Store_drop.ok sc_Store_drop (fun vs H Q E h => ?_) (fun cdv A outer s H vs Q E hr h => ?_)
  · obtain ⟨st, dx, wl, pl, room, entries, least, ws, kvs, ns, rfl, _⟩ := h
    rfl
  · obtain ⟨st, dx, wl, pl, room, entries, least, ws, kvs, n, rfl, S, hk, k⟩ := h
    have hu1 := hu_of hr
    have hu64 := hu64_of hr
    have n1 : st ≠ pl := ne_of S.st S.pl (by intro z; cases z)
    have n2 : wl ≠ pl := ne_of S.wl S.pl (by intro z; cases z)
    have n3 : st ≠ wl := ne_of S.st S.wl (by intro z; cases z)
    refine ⟨_, (pss_cons (ps_ddel (pe_fld (pv 0) rfl) (pv 1))
      (pss_one (ps_fld (pv 0) (pe_callB (call_min2 rfl) (by rfl) W.n_min bb_min (pa_cons (pe_fld (pv 0) rfl) (pa_cons (pv 1) pa_nil))) rfl))), ?_⟩
    refine ⟨_, rfl, st, _, dx, _, _, rfl, S.st, W.C_Store, W.na_Store__places, rfl, ?_⟩
    refine ⟨_, rfl, pl, _, .inl n, rfl, S.pl, rfl, hk, ?_⟩
    have h2 : upd H pl (.dK (dropK kvs (.inl n))) st = some (.ins W.c_Store dx (sF room entries wl pl least)) := by rw [upd_ne n1]; exact S.st
    refine ⟨_, rfl, st, _, dx, _, _, rfl, h2, W.C_Store, W.na_Store__least, rfl, ?_⟩
    refine ⟨_, rfl, _, _, rfl, ?_⟩
    refine ⟨_, rfl, st, _, dx, _, rfl, h2, W.C_Store, W.na_Store__least, (by show 5 < 1000; decide), ?_⟩
    refine k _ ⟨upd_same, ?_, ?_⟩ (fun b b1 b2 => ?_)
    · rw [upd_ne n3.symm, upd_ne n2]; exact S.wl
    · rw [upd_ne n1.symm]; exact upd_same
    · rw [upd_ne b1, upd_ne b2]
def sp_exchange : Addr → Sp := fun C vs H Q _ => ∃ st dx wl pl room entries least ws kvs m n, ∃ (p q : Nat), vs = [.ref st, .int m, .int n] ∧ StoreAt H C st dx wl pl room entries least ws kvs ∧ valV kvs (.inl m) = some (.int (p : Int)) ∧ valV kvs (.inl n) = some (.int (q : Int)) ∧ p < ws.length ∧ q < ws.length ∧ kvs.length + 1 < sizeLine ∧
  ∀ H', StoreAt H' C st dx wl pl room entries least ((ws.set p n).set q m) (putK (putK kvs (.inl m) (.int (q : Int))) (.inl n) (.int (p : Int))) → (∀ b, b ≠ wl → b ≠ pl → H' b = H b) → Q .non H'
theorem ok_Store_exchange (W : WT P K mg base) : FnOk P w K mg base CX0 1 W.f_Store_exchange W.fd_Store_exchange ["self", "first", "second"] (sp_exchange W.c_Store) := by
  refine W.F_Store_exchange.ok sc_Store_exchange (fun vs H Q E h => ?_) (fun cdv A outer s H vs Q E hr h => ?_)
  · obtain ⟨st, dx, wl, pl, room, entries, least, ws, kvs, m, n, p, q, rfl, _⟩ := h
    rfl
  · obtain ⟨st, dx, wl, pl, room, entries, least, ws, kvs, m, n, p, q, rfl, S, hm, hn, hp, hq, hl, k⟩ := h
    have hu1 := hu_of hr
    have hu64 := hu64_of hr
    have n1 : st ≠ pl := ne_of S.st S.pl (by intro z; cases z)
    have n2 : wl ≠ pl := ne_of S.wl S.pl (by intro z; cases z)
    have n3 : st ≠ wl := ne_of S.st S.wl (by intro z; cases z)
    refine ⟨_, (pss_cons (ps_set (i := 3) sc_Store_exchange.nd rfl (by first | exact Or.inl rfl | exact Or.inr rfl) (pe_ix (ix_U hu1) (pe_fld (pv 0) rfl) (pv 1) (fun _ _ => rfl)))
      (pss_cons (ps_set (i := 4) sc_Store_exchange.nd rfl (by first | exact Or.inl rfl | exact Or.inr rfl) (pe_ix (ix_U hu1) (pe_fld (pv 0) rfl) (pv 2) (fun _ _ => rfl)))
      (pss_cons (ps_dput hu1 (pe_fld (pv 0) rfl) (pv 1) (pv 4) rfl)
      (pss_cons (ps_dput hu1 (pe_fld (pv 0) rfl) (pv 2) (pv 3) rfl)
      (pss_cons (ps_asg (pv 2) (pg_sub (pe_fld (pv 0) rfl) (pv 3) set_list))
      (pss_one (ps_asg (pv 1) (pg_sub (pe_fld (pv 0) rfl) (pv 4) set_list)))))))), ?_⟩
    refine ⟨_, rfl, st, _, dx, _, _, rfl, S.st, W.C_Store, W.na_Store__places, rfl, ?_⟩
    refine ⟨_, rfl, Or.inr ⟨_, by rw [← hm]; exact DGet.k (k := Sum.inl m) S.pl, ?_⟩⟩
    refine ⟨_, rfl, st, _, dx, _, _, rfl, S.st, W.C_Store, W.na_Store__places, rfl, ?_⟩
    refine ⟨_, rfl, Or.inr ⟨_, by rw [← hn]; exact DGet.k (k := Sum.inl n) S.pl, ?_⟩⟩
    refine ⟨_, rfl, _, rfl, st, _, dx, _, _, rfl, S.st, W.C_Store, W.na_Store__places, rfl, ?_⟩
    refine ⟨_, rfl, pl, _, rfl, DPut.k (k := Sum.inl m) S.pl (by omega), ?_⟩
    generalize e1 : upd H pl (.dK (putK kvs (Sum.inl m) (.int (q : Int)))) = H1
    have s1 : H1 st = some (.ins W.c_Store dx (sF room entries wl pl least)) := by rw [← e1, upd_ne n1]; exact S.st
    have p1 : H1 pl = some (.dK (putK kvs (Sum.inl m) (.int (q : Int)))) := by rw [← e1]; exact upd_same
    refine ⟨_, rfl, _, rfl, st, _, dx, _, _, rfl, s1, W.C_Store, W.na_Store__places, rfl, ?_⟩
    refine ⟨_, rfl, pl, _, rfl, DPut.k (k := Sum.inl n) p1 (by have := length_putK kvs (Sum.inl m) (.int (q : Int)); omega), ?_⟩
    generalize e2 : upd H1 pl (.dK (putK (putK kvs (Sum.inl m) (.int (q : Int))) (Sum.inl n) (.int (p : Int)))) = H2
    have s2 : H2 st = some (.ins W.c_Store dx (sF room entries wl pl least)) := by rw [← e2, upd_ne n1]; exact s1
    have w2 : H2 wl = some (.lst (ws.map V.int)) := by rw [← e2, upd_ne n2, ← e1, upd_ne n2]; exact S.wl
    have p2 : H2 pl = some (.dK (putK (putK kvs (Sum.inl m) (.int (q : Int))) (Sum.inl n) (.int (p : Int)))) := by rw [← e2]; exact upd_same
    refine ⟨_, rfl, _, rfl, st, _, dx, _, _, rfl, s2, W.C_Store, W.na_Store_words, rfl, ?_⟩
    refine ⟨_, rfl, wl, _, _, p, rfl, rfl, w2, ixN_nat (i := p) (by rw [List.length_map]; exact hp), ?_⟩
    rw [set_int]
    generalize e3 : upd H2 wl (.lst ((ws.set p n).map V.int)) = H3
    have s3 : H3 st = some (.ins W.c_Store dx (sF room entries wl pl least)) := by rw [← e3, upd_ne n3]; exact s2
    have w3 : H3 wl = some (.lst ((ws.set p n).map V.int)) := by rw [← e3]; exact upd_same
    refine ⟨_, rfl, _, rfl, st, _, dx, _, _, rfl, s3, W.C_Store, W.na_Store_words, rfl, ?_⟩
    refine ⟨_, rfl, wl, _, _, q, rfl, rfl, w3, ixN_nat (i := q) (by rw [List.length_map, List.length_set]; exact hq), ?_⟩
    rw [set_int]
    refine k _ ⟨?_, upd_same, ?_⟩ (fun b b1 b2 => ?_)
    · rw [upd_ne n3]; exact s3
    · rw [upd_ne n2.symm, ← e3, upd_ne n2.symm]; exact p2
    · rw [upd_ne b1, ← e3, upd_ne b1, ← e2, upd_ne b2, ← e1, upd_ne b2]
def sp_init : Addr → Sp := fun C vs H Q _ => ∃ st dx room entries, vs = [.ref st, .int room, .int entries] ∧ H st = some (.ins C dx []) ∧
  ∀ H' wl pl, StoreAt H' C st dx wl pl room entries 0 [] [] → (∀ b o, H b = some o → b ≠ st → H' b = some o) → H wl = none → H pl = none → Q .non H'
theorem ok_Store___init__ (W : WT P K mg base) : FnOk P w K mg base CX0 1 W.f_Store___init__ W.fd_Store___init__ ["self", "room", "entries"] (sp_init W.c_Store) := by
  refine W.F_Store___init__.ok sc_Store___init__ (fun vs H Q E h => ?_) (fun cdv A outer s H vs Q E hr h => ?_)
  · obtain ⟨st, dx, room, entries, rfl, _⟩ := h
    rfl
  · obtain ⟨st, dx, room, entries, rfl, S, k⟩ := h
    have hu1 := hu_of hr
    have hu64 := hu64_of hr
    refine ⟨_, (pss_cons (ps_fld (pv 0) (pv 1) rfl)
      (pss_cons (ps_fld (pv 0) (pv 2) rfl)
      (pss_cons (ps_fld (pv 0) (pe_lst pa_nil) rfl)
      (pss_cons (ps_fld (pv 0) pe_dnewK rfl)
      (pss_one (ps_fld (pv 0) pe_int rfl)))))), ?_⟩
    refine ⟨_, rfl, _, rfl, st, _, dx, _, rfl, S, W.C_Store, W.na_Store_room, (by decide), ?_⟩
    refine ⟨_, rfl, _, rfl, st, _, dx, _, rfl, upd_same, W.C_Store, W.na_Store_entries, (by show 1 < 1000; decide), ?_⟩
    rw [upd_upd]
    generalize e1 : upd H st (.ins W.c_Store dx (putF "entries" (.int entries) (putF "room" (.int room) []))) = H1
    have s1 : H1 st = some (.ins W.c_Store dx [("room", .int room), ("entries", .int entries)]) := by rw [← e1]; exact upd_same
    refine ⟨(by show 0 ≤ sizeLine; decide), fun wl hw => ?_⟩
    have nw : st ≠ wl := ne_of_none s1 hw
    have s2 : upd H1 wl (.lst []) st = some (.ins W.c_Store dx [("room", .int room), ("entries", .int entries)]) := by rw [upd_ne nw]; exact s1
    refine ⟨_, rfl, st, _, dx, _, rfl, s2, W.C_Store, W.na_Store_words, (by show 2 < 1000; decide), ?_⟩
    intro pl hp
    have np : st ≠ pl := ne_of_none upd_same hp
    have npw : wl ≠ pl := fun z => by subst z; rw [upd_ne nw.symm, upd_same] at hp; cases hp
    refine ⟨_, rfl, st, _, dx, _, rfl, (by rw [upd_ne np]; exact upd_same), W.C_Store, W.na_Store__places, (by show 3 < 1000; decide), ?_⟩
    refine ⟨_, rfl, st, _, dx, _, rfl, upd_same, W.C_Store, W.na_Store__least, (by show 4 < 1000; decide), ?_⟩
    rw [upd_upd]
    have hw0 : H wl = none := by rw [← e1, upd_ne nw.symm] at hw; exact hw
    have hp0 : H pl = none := by rw [upd_ne np.symm, upd_ne npw.symm, ← e1, upd_ne np.symm] at hp; exact hp
    refine k _ wl pl ⟨upd_same, ?_, ?_⟩ (fun b o e nb => ?_) hw0 hp0
    · rw [upd_ne nw.symm, upd_ne npw, upd_ne nw.symm]; exact upd_same
    · rw [upd_ne np.symm]; exact upd_same
    · rw [upd_ne nb, upd_ne (ne_of_none e hp0), upd_ne nb, upd_ne (ne_of_none e hw0), ← e1, upd_ne nb]; exact e
end
section
variable {P : Program} {w : World} {K : PySem.W.Frag} {mg : Str → Option Value} {base : Heap}
def sp_get : Addr → Sp := fun C vs H Q _ => ∃ st dx wl pl room entries least ws kvs n, ∃ (p a : Nat) (z : Int), vs = [.ref st, .int n, .int (a : Int)] ∧ StoreAt H C st dx wl pl room entries least ws kvs ∧ valV kvs (.inl n) = some (.int (p : Int)) ∧ ws[p + 3 + a]? = some z ∧ Q (.int z) H
theorem ok_Store_get (W : WT P K mg base) : FnOk P w K mg base CX0 1 W.f_Store_get W.fd_Store_get ["self", "number", "at"] (sp_get W.c_Store) := by
  refine W.F_Store_get.ok sc_Store_get (fun vs H Q E h => ?_) (fun cdv A outer s H vs Q E hr h => ?_)
  · obtain ⟨st, dx, wl, pl, room, entries, least, ws, kvs, n, p, a, z, rfl, _⟩ := h
    rfl
  · obtain ⟨st, dx, wl, pl, room, entries, least, ws, kvs, n, p, a, z, rfl, S, hp, hz, k⟩ := h
    have hu1 := hu_of hr
    have hu64 := hu64_of hr
    refine ⟨_, (pss_one (ps_ret (pe_ix (ix_U hu1) (pe_fld (pv 0) rfl) (pe_op op_addU (pe_op op_addU (pe_ix (ix_U hu1) (pe_fld (pv 0) rfl) (pv 1) (fun _ _ => rfl)) (pe_gi rfl W.g_HEADER)) (pv 2)) (fun _ _ => rfl)))), ?_⟩
    refine ⟨_, rfl, st, _, dx, _, _, rfl, S.st, W.C_Store, W.na_Store_words, rfl, ?_⟩
    refine ⟨_, rfl, st, _, dx, _, _, rfl, S.st, W.C_Store, W.na_Store__places, rfl, ?_⟩
    refine ⟨_, rfl, Or.inr ⟨_, by rw [← hp]; exact DGet.k (k := Sum.inl n) S.pl, ?_⟩⟩
    refine ⟨_, rfl, ?_⟩
    exact Or.inl ⟨_, _, _, rfl, Or.inl (SqL.of S.wl), atI_nat (j := p + 3 + a) (int_at hz), k⟩
end

end LX
namespace LX
open PySem PySem.Spec PyProof.Rows L2 NdefX
section
variable {P : Program} {w : World} {K : PySem.W.Frag} {mg : Str → Option Value} {base : Heap}
def sp_number : Sp := fun vs H Q _ => ∃ c k : Int, vs = [.int c, .int k] ∧ 0 ≤ k ∧ k ≤ 100000 ∧ ∀ r : Int, 0 ≤ r → Q (.int r) H
theorem ok__law_number (W : WT P K mg base) : FnOk P w K mg base CX0 1 W.f__law_number W.fd__law_number ["_law_cell", "_law_k"] sp_number := by
  refine W.F__law_number.ok sc__law_number (fun vs H Q E h => ?_) (fun cdv A outer s H vs Q E hr h => ?_)
  · obtain ⟨n, m, rfl, _⟩ := h
    rfl
  · obtain ⟨c, m, rfl, hm, hm2, k⟩ := h
    have hu1 := hu_of hr
    have hu64 := hu64_of hr
    refine ⟨_, (pss_cons (ps_if (pt_cmpR op_geU (pv 0) (pe_op op_pow pe_int pe_int) (by first | exact nomark _ | rfl)) (pss_one (ps_ret (pv 0))) pss_nil)
      (pss_cons (ps_set (i := 2) sc__law_number.nd rfl (by first | exact Or.inl rfl | exact Or.inr rfl) (pe_op op_mod (pe_callTy call_intU (by rfl) W.n_int bb_int (pa_cons (pe_op op_addU (pe_op op_addU (pe_op op_mulU (pv 0) pe_int) (pe_op op_mulU (pv 1) pe_int)) pe_int) pa_nil)) pe_int))
      (pss_one (ps_ret (pe_op op_mod (pe_callTy call_intU (by rfl) W.n_int bb_int (pa_cons (pe_op op_addU (pe_op op_mulU (pv 2) (pv 2)) (pe_op op_mulU (pv 1) pe_int)) pa_nil)) pe_int))))), ?_⟩
    refine ⟨_, rfl, _, _, rfl, rfl, ⟨by decide, by decide, by decide⟩, _, rfl, ?_⟩
    refine iteD (fun h => ?_) (fun h => ?_)
    · refine ⟨_, rfl, k _ ?_⟩
      have h : (10 : Int) ^ 18 ≤ c := h
      omega
    · refine ⟨_, rfl, Or.inr ⟨by decide, by decide⟩, ?_⟩
      refine ⟨_, rfl, Or.inr ⟨by decide, by decide⟩, ?_⟩
      refine ⟨_, _, rfl, rfl, (by show (0 : Int) < 2147483647; decide), ?_⟩
      have e1 := Int.emod_nonneg (c * 48271 + m * 69621 + 11) (by decide : (2147483647 : Int) ≠ 0)
      have e2 := Int.emod_lt_of_pos (c * 48271 + m * 69621 + 11) (by decide : (0 : Int) < 2147483647)
      generalize (c * 48271 + m * 69621 + 11) % 2147483647 = d at e1 e2 ⊢
      refine ⟨_, rfl, _, rfl, Or.inl ⟨by omega, by omega⟩, ?_⟩
      refine ⟨_, rfl, Or.inr ⟨by decide, by decide⟩, ?_⟩
      refine ⟨_, _, rfl, rfl, (by show (0 : Int) < 2147483399; decide), ?_⟩
      exact k _ (Int.emod_nonneg _ (by decide))
theorem divc (j : Int) (h0 : 0 < j) (h : j ≤ 100000000) : CDivW 0 j := ⟨h0, by
  have : j.natAbs.log2 ≤ j.natAbs := Nat.log2_le_self _
  have e : j.natAbs ≤ 100000000 := by omega
  have : j.natAbs.log2 < 27 := by
    by_cases z : j.natAbs = 0
    · omega
    · exact (Nat.log2_lt z).mpr (by omega)
  omega⟩
theorem divx {i j : Int} (h : CDivW 0 j) : CDivW i j := h
def sp_is : Sp := fun vs H Q _ => ∃ a b : Int, vs = [.int a, .int b] ∧ Q (.bl (decide (a = b))) H
theorem ok__law_is (W : WT P K mg base) : FnOk P w K mg base CX0 1 W.f__law_is W.fd__law_is ["_law_actual", "_law_due"] sp_is := by
  refine W.F__law_is.ok sc__law_is (fun vs H Q E h => ?_) (fun cdv A outer s H vs Q E hr h => ?_)
  · obtain ⟨n, m, rfl, _⟩ := h
    rfl
  · obtain ⟨a, b, rfl, k⟩ := h
    have hu1 := hu_of hr
    have hu64 := hu64_of hr
    refine ⟨_, (pss_one (ps_ret (pe_and (pe_callB call_isi (by rfl) W.n_isinstance bb_isinstance (pa_cons (pv 0) (pa_cons (pe_bt rfl W.n_int bb_int) pa_nil))) (pe_and (pe_notT (pe_callB call_isi (by rfl) W.n_isinstance bb_isinstance (pa_cons (pv 0) (pa_cons (pe_bt rfl W.n_bool bb_bool) pa_nil)))) (pe_one (pe_cmpR (op_eqU hu64) (pv 0) (pv 1) (by first | exact nomark _ | rfl))))))), ?_⟩
    refine ⟨_, rfl, ?_⟩
    refine ⟨_, _, _, _, _, rfl, ClsV.ty _, TyX.base (TyOf.int _), kt_int_int, ?_⟩
    refine ⟨_, rfl, ?_⟩
    refine iteT ?_
    refine ⟨_, rfl, ?_⟩
    refine ⟨_, _, _, _, _, rfl, ClsV.ty _, TyX.base (TyOf.int _), kt_int_bool, ?_⟩
    refine ⟨_, rfl, _, rfl, iteT ?_⟩
    refine ⟨_, rfl, _, rfl, rfl, ?_⟩
    show Q (.bl (decide (V.int a = V.int b))) H
    rw [I_dec]
    exact k
/-- every old thing outside of F is kept -/
def Fr (F : List Addr) (H H' : Hp) : Prop := ∀ b o, H b = some o → b ∉ F → H' b = some o
theorem Fr.rfl' {F : List Addr} {H : Hp} : Fr F H H := fun _ _ e _ => e
theorem Fr.trans {F : List Addr} {H H1 H2 : Hp} (a : Fr F H H1) (b : Fr F H1 H2) : Fr F H H2 := fun c o e n => b c o (a c o e n) n
theorem Fr.new {F : List Addr} {H : Hp} {q : Addr} {o : HO} (hq : H q = none) : Fr F H (upd H q o) := fun c u e _ => by rw [upd_ne (ne_of_none e hq)]; exact e
theorem Fr.at {F : List Addr} {H : Hp} {q : Addr} {o : HO} (hq : q ∈ F) : Fr F H (upd H q o) := fun c u e n => by rw [upd_ne (fun z => n (by rw [z]; exact hq))]; exact e
theorem Fr.mono {F G : List Addr} {H H' : Hp} (a : Fr F H H') (h : ∀ b, b ∈ F → b ∈ G) : Fr G H H' := fun c o e n => a c o e fun m => n (h c m)
def IsI (H : Hp) (a : Addr) (ns : List Int) : Prop := H a = some (.lst (ns.map V.int))
def sp_same : Sp := fun vs H Q _ => ∃ a b ns, vs = [.ref a, .ref b] ∧ IsI H a ns ∧ IsI H b ns ∧ ns.length ≤ 100000 ∧ Q (.bl true) H
theorem ok__law_same (W : WT P K mg base) : FnOk P w K mg base CX0 2 W.f__law_same W.fd__law_same ["_law_actual", "_law_due"] sp_same := by
  refine W.F__law_same.ok sc__law_same (fun vs H Q E h => ?_) (fun cdv A outer s H vs Q E hr h => ?_)
  · obtain ⟨n, m, ns, rfl, _⟩ := h
    rfl
  · obtain ⟨a, b, ns, rfl, ha, hb, hl, k⟩ := h
    have hu1 := hu_of hr
    have hu64 := hu64_of hr
    refine ⟨_, (pss_cons (ps_if (PW.pt (pw_or (pt_not (pt_truth (pe_callB call_isi (by rfl) W.n_isinstance bb_isinstance (pa_cons (pv 0) (pa_cons (pe_bt rfl W.n_list bb_list) pa_nil))) (by intro _; rfl))) (pw_or1 (pt_cmpR (op_neU hu64) (pe_callB call_lenU (by rfl) W.n_len bb_len (pa_cons (pv 0) pa_nil)) (pe_callB call_lenU (by rfl) W.n_len bb_len (pa_cons (pv 1) pa_nil)) (by first | exact nomark _ | rfl))))) (pss_one (ps_ret pe_bl)) pss_nil)
      (pss_cons (ps_for PassesOwn.never rfl (pi_range1 (by rfl) W.n_range (pa_cons (pe_callB call_lenU (by rfl) W.n_len bb_len (pa_cons (pv 1) pa_nil)) pa_nil)) (pg_name (i := 2) sc__law_same.nd rfl (by first | exact Or.inl rfl | exact Or.inr rfl)) (pss_one (ps_if (pt_not (pt_truth (pe_call (ok__law_is W) (hr.mono (by decide)) rfl W.g__law_is W.F__law_is.kp W.b__law_is .nil pass0 (pa_cons (pe_ix (ix_U hu1) (pv 0) (pv 2) (fun _ _ => rfl)) (pa_cons (pe_ix (ix_U hu1) (pv 1) (pv 2) (fun _ _ => rfl)) pa_nil))) (by intro _; rfl))) (pss_one (ps_ret pe_bl)) pss_nil)))
      (pss_one (ps_ret pe_bl)))), ?_⟩
    refine ⟨_, rfl, ?_⟩
    refine ⟨_, _, _, _, _, rfl, ClsV.ty _, TyX.base (TyOf.lst ha), kt_list_list, ?_⟩
    refine ⟨_, rfl, iteF ?_⟩
    refine ⟨_, rfl, Or.inl ⟨_, Or.inl (SqL.of ha), ?_⟩⟩
    refine ⟨_, rfl, Or.inl ⟨_, Or.inl (SqL.of hb), ?_⟩⟩
    refine ⟨rfl, _, rfl, ?_⟩
    refine iteND (fun h => absurd rfl h) (fun _ => ?_)
    refine ⟨_, rfl, Or.inl ⟨_, Or.inl (SqL.of hb), ?_⟩⟩
    rw [List.length_map]
    refine ⟨_, rfl, by omega, by omega, for_range (lo := 0) (n := ns.length) (fun _ σ H' => (∃ v, σ = [some (.ref a), some (.ref b), v]) ∧ H' = H) ⟨⟨_, rfl⟩, rfl⟩ (fun i σ H' hi hI => ?_) (fun σ H' hI => ?_)⟩
    · obtain ⟨⟨v, rfl⟩, rfl⟩ := hI
      have hx := int_at (List.getElem?_eq_getElem hi)
      refine ⟨_, rfl, _, rfl, Or.inl ⟨_, _, _, rfl, Or.inl (SqL.of ha), by rw [Int.zero_add]; exact atI_nat hx, ?_⟩⟩
      refine ⟨_, rfl, _, rfl, Or.inl ⟨_, _, _, rfl, Or.inl (SqL.of hb), by rw [Int.zero_add]; exact atI_nat hx, ?_⟩⟩
      refine ⟨_, _, rfl, ?_⟩
      refine ⟨_, rfl, ?_⟩
      refine iteND (fun h => absurd rfl h) (fun _ => ?_)
      exact ⟨⟨_, rfl⟩, rfl⟩
    · obtain ⟨_, rfl⟩ := hI
      exact k
end

end LX
namespace LX
open PySem PySem.Spec PyProof.Rows L2 NdefX
section
variable {P : Program} {w : World} {K : PySem.W.Frag} {mg : Str → Option Value} {base : Heap}
theorem pig {α : Type} [DecidableEq α] (f : Nat → α) (hf : ∀ i j, f i = f j → i = j) : ∀ (m : Nat) (l : List α), (∀ n, n < m → f n ∈ l) → m ≤ l.length
  | 0, _, _ => Nat.zero_le _
  | m + 1, l, h => by
    have hm := h m (Nat.lt_succ_self m)
    have := pig f hf m (l.erase (f m)) fun n hn => (List.mem_erase_of_ne (fun e => by have := hf _ _ e; omega)).mpr (h n (by omega))
    have hl := List.length_erase_of_mem hm
    have : 0 < l.length := List.length_pos_of_mem hm
    omega
theorem val_mem {κ : Type} [DecidableEq κ] {kvs : List (κ × V)} {k : κ} {v : V} (h : valV kvs k = some v) : (k, v) ∈ kvs := by
  unfold valV at h
  obtain ⟨p, hp, e⟩ := Option.map_eq_some_iff.mp h
  have h1 := List.find?_some hp
  have h2 := List.mem_of_find?_eq_some hp
  have h1 : p.1 = k := of_decide_eq_true h1
  obtain ⟨a, b⟩ := p
  subst h1 e
  exact h2
def Seen (kvs : List (Key × V)) (m : Int) : Prop := 0 ≤ m ∧ ∀ n : Int, 0 ≤ n → n < m → (valV kvs (.inl n)).isSome = true
theorem Seen.le {kvs : List (Key × V)} {m : Int} (h : Seen kvs m) : m ≤ kvs.length := by
  have := pig (α := Key) (fun n => .inl (n : Int)) (fun i j e => by have := Sum.inl.inj e; omega) m.toNat (kvs.map (·.1)) fun n hn => by
    have z := h.2 n (by omega) (by have := h.1; omega)
    obtain ⟨v, hv⟩ := Option.isSome_iff_exists.mp z
    exact List.mem_map.mpr ⟨_, val_mem hv, rfl⟩
  rw [List.length_map] at this
  have := h.1
  omega
theorem rep_int (z : Nat) (x : Int) : (List.replicate z [V.int x]).flatten = (List.replicate z x).map V.int := by
  induction z with
  | zero => rfl
  | succ n ih => rw [List.replicate_succ, List.flatten_cons, ih, List.replicate_succ, List.map_cons] <;> rfl
end
section
variable {P : Program} {w : World} {K : PySem.W.Frag} {mg : Str → Option Value} {base : Heap}
def sp_free : Addr → Addr → Sp := fun C CE vs H Q E => ∃ st dx wl pl room entries least ws kvs, vs = [.ref st] ∧ StoreAt H C st dx wl pl room entries least ws kvs ∧ Seen kvs least ∧ StrOk (.int entries) ∧ ∀ m H', StoreAt H' C st dx wl pl room entries m ws kvs → (∀ b, b ≠ st → H' b = H b) → Seen kvs m → valV kvs (.inl m) = none → (m < entries → Q (.int m) H') ∧ (¬ m < entries → ∀ d, H' d = none → E (.ref CE) (some d) (L2.upd H' d (.xd [("limit", .int entries)])))
theorem ok_Store_free_number (W : WT P K mg base) : FnOk P w K mg base (L2N.CX P w) 3 W.f_Store_free_number W.fd_Store_free_number ["self"] (sp_free W.c_Store W.c_NoNumber) := by
  refine okN W.F_Store_free_number sc_Store_free_number (fun vs H Q E h => ?_) (fun cdv A outer s H vs Q E hr h => ?_)
  · obtain ⟨st, dx, wl, pl, room, entries, least, ws, kvs, rfl, _⟩ := h
    rfl
  · obtain ⟨st, dx, wl, pl, room, entries, least, ws, kvs, rfl, S, hs, hl, k⟩ := h
    have hu1 := hu_of hr
    have hu64 := hu64_of hr
    refine ⟨_, (pss_cons (ps_while (passes_of rfl) (pt_cmpR (op_inU hu1) (pe_fld (pv 0) rfl) (pe_fld (pv 0) rfl) (by first | exact nomark _ | rfl)) (pss_one (ps_fld (pv 0) (pe_op op_addU (pe_fld (pv 0) rfl) pe_int) rfl)))
      (pss_cons (ps_if (pt_cmpR op_geU (pe_fld (pv 0) rfl) (pe_fld (pv 0) rfl) (by first | exact nomark _ | rfl)) (pss_one (L2N.ps_raise rfl (L2N.takes_of rfl rfl rfl rfl) (pmk_x W.X_NoNumber W.i_NoNumber (ok_NoNumber___init__ W) (hr.mono (by decide)) W.b_NoNumber___init__ pass0 rfl W.g_NoNumber (pa_cons (pe_fld (pv 0) rfl) pa_nil)))) pss_nil)
      (pss_one (ps_ret (pe_fld (pv 0) rfl))))), ?_⟩
    refine ⟨fun n σ H' => ∃ m : Int, σ = [some (.ref st)] ∧ StoreAt H' W.c_Store st dx wl pl room entries m ws kvs ∧ (∀ b, b ≠ st → H' b = H b) ∧ Seen kvs m ∧ n = kvs.length - m.toNat, ⟨_, least, rfl, S, fun _ _ => rfl, hs, rfl⟩, ?_⟩
    rintro n σ H' ⟨m, rfl, S1, fr, hs1, rfl⟩
    refine ⟨_, rfl, st, _, dx, _, _, rfl, S1.st, W.C_Store, W.na_Store__least, rfl, ?_⟩
    refine ⟨_, rfl, st, _, dx, _, _, rfl, S1.st, W.C_Store, W.na_Store__places, rfl, ?_⟩
    refine Or.inr ⟨_, DGet.k (k := Sum.inl m) S1.pl, ?_⟩
    refine ⟨_, rfl, ?_⟩
    cases e : valV kvs (.inl m) with
    | some v =>
      refine iteT ?_
      refine ⟨_, fun _ _ z => z, ?_⟩
      refine ⟨_, rfl, st, _, dx, _, _, rfl, S1.st, W.C_Store, W.na_Store__least, rfl, ?_⟩
      refine ⟨_, rfl, st, _, dx, _, rfl, S1.st, W.C_Store, W.na_Store__least, (by show 5 < 1000; decide), ?_⟩
      have n1 : st ≠ pl := ne_of S1.st S1.pl (by intro z; cases z)
      have n3 : st ≠ wl := ne_of S1.st S1.wl (by intro z; cases z)
      have hs2 : Seen kvs (m + 1) := ⟨by have := hs1.1; omega, fun n h0 h1 => by
        by_cases q : n = m
        · subst q; rw [e]; rfl
        · exact hs1.2 n h0 (by omega)⟩
      have l2 := hs2.le
      have l1 := hs1.1
      refine ⟨kvs.length - (m + 1).toNat, by omega, m + 1, rfl, ⟨upd_same, ?_, ?_⟩, fun b hb => ?_, hs2, rfl⟩
      · rw [upd_ne n3.symm]; exact S1.wl
      · rw [upd_ne n1.symm]; exact S1.pl
      · rw [upd_ne hb]; exact fr b hb
    | none =>
      refine iteF ?_
      refine ⟨_, rfl, st, _, dx, _, _, rfl, S1.st, W.C_Store, W.na_Store__least, rfl, ?_⟩
      refine ⟨_, rfl, st, _, dx, _, _, rfl, S1.st, W.C_Store, W.na_Store_entries, rfl, ?_⟩
      refine ⟨_, rfl, ?_⟩
      refine iteD (fun h => ?_) (fun h => ?_)
      · have h : entries ≤ m := h
        refine ⟨_, rfl, st, _, dx, _, _, rfl, S1.st, W.C_Store, W.na_Store_entries, rfl, ?_⟩
        exact exc1_mk hl fun d hd => (k m H' S1 fr hs1 e).2 (by omega) d hd
      · have h : ¬ entries ≤ m := h
        refine ⟨_, rfl, st, _, dx, _, _, rfl, S1.st, W.C_Store, W.na_Store__least, rfl, ?_⟩
        exact (k m H' S1 fr hs1 e).1 (by omega)
end
section
variable {P : Program} {w : World} {K : PySem.W.Frag} {mg : Str → Option Value} {base : Heap}
def sp_alloc : Addr → Addr → Addr → Sp := fun C CR CN vs H Q E => ∃ st dx wl pl room entries least ws kvs, ∃ (x : Int) (z : Nat), vs = [.ref st, .int x, .int (z : Int)] ∧ StoreAt H C st dx wl pl room entries least ws kvs ∧ Seen kvs least ∧ kvs.length ≤ 100000 ∧ StrOk (.int entries) ∧ z ≤ 1000 ∧ room ≤ 100000 ∧
  (room < (ws.length : Int) + 3 + z → ∀ d, H d = none → E (.ref CR) (some d) (L2.upd H d (.xd [("need", .int (3 + (z : Int)))]))) ∧
  (¬ room < (ws.length : Int) + 3 + z → ∀ m H1, StoreAt H1 C st dx wl pl room entries m ws kvs → Fr [st] H H1 → Seen kvs m → valV kvs (.inl m) = none → ¬ m < entries → ∀ d, H1 d = none → E (.ref CN) (some d) (L2.upd H1 d (.xd [("limit", .int entries)]))) ∧
  (¬ room < (ws.length : Int) + 3 + z → ∀ m H', StoreAt H' C st dx wl pl room entries m (ws ++ (m :: (z : Int) :: x :: List.replicate z 0)) (putK kvs (.inl m) (.int (ws.length : Int))) → Fr [st, wl, pl] H H' → Seen kvs m → valV kvs (.inl m) = none → m < entries → Q (.int m) H')
theorem ok_Store_allocate (W : WT P K mg base) : FnOk P w K mg base (L2N.CX P w) 4 W.f_Store_allocate W.fd_Store_allocate ["self", "kind", "size"] (sp_alloc W.c_Store W.c_NoRoom W.c_NoNumber) := by
  refine okN W.F_Store_allocate sc_Store_allocate (fun vs H Q E h => ?_) (fun cdv A outer s H vs Q E hr h => ?_)
  · obtain ⟨st, dx, wl, pl, room, entries, least, ws, kvs, x, z, rfl, _⟩ := h
    rfl
  · obtain ⟨st, dx, wl, pl, room, entries, least, ws, kvs, x, z, rfl, S, hs, hl, he, hz, hr2, k1, k2, k3⟩ := h
    have hu1 := hu_of hr
    have hu64 := hu64_of hr
    refine ⟨_, (pss_cons (ps_if (pt_cmpR op_gtU (pe_op op_addU (pe_op op_addU (pe_callB call_lenU (by rfl) W.n_len bb_len (pa_cons (pe_fld (pv 0) rfl) pa_nil)) (pe_gi rfl W.g_HEADER)) (pv 2)) (pe_fld (pv 0) rfl) (by first | exact nomark _ | rfl)) (pss_one (L2N.ps_raise rfl (L2N.takes_of rfl rfl rfl rfl) (pmk_x W.X_NoRoom W.i_NoRoom (ok_NoRoom___init__ W) (hr.mono (by decide)) W.b_NoRoom___init__ pass0 rfl W.g_NoRoom (pa_cons (pe_op op_addU (pe_gi rfl W.g_HEADER) (pv 2)) pa_nil)))) pss_nil)
      (pss_cons (ps_set (i := 3) sc_Store_allocate.nd rfl (by first | exact Or.inl rfl | exact Or.inr rfl) (pe_meth0 (pv 0) W.C_Store W.m_Store_free_number (ok_Store_free_number W) (hr.mono (by decide)) W.b_Store_free_number .nil (L2N.passes_call (L2N.takes_of rfl rfl rfl rfl) (fun _ _ _ _ h => h)) ))
      (pss_cons (ps_dput hu1 (pe_fld (pv 0) rfl) (pv 3) (pe_callB call_lenU (by rfl) W.n_len bb_len (pa_cons (pe_fld (pv 0) rfl) pa_nil)) rfl)
      (pss_cons (ps_expr (pe_bm PySem.F.plainAttrs_list PySem.F.slot_list_extend PySem.F.type_list_extend mt_extend (pe_fld (pv 0) rfl) (pa_cons (pe_lst (pa_cons (pv 3) (pa_cons (pv 2) (pa_cons (pv 1) pa_nil)))) pa_nil)))
      (pss_cons (ps_expr (pe_bm PySem.F.plainAttrs_list PySem.F.slot_list_extend PySem.F.type_list_extend mt_extend (pe_fld (pv 0) rfl) (pa_cons (pe_op op_mulU (pe_lst (pa_cons (pe_gi rfl W.g_NIL) pa_nil)) (pv 2)) pa_nil)))
      (pss_one (ps_ret (pv 3)))))))), ?_⟩
    refine ⟨_, rfl, st, _, dx, _, _, rfl, S.st, W.C_Store, W.na_Store_words, rfl, ?_⟩
    refine Or.inl ⟨_, Or.inl (SqL.of S.wl), ?_⟩
    rw [List.length_map]
    refine ⟨_, rfl, ?_⟩
    refine ⟨_, rfl, st, _, dx, _, _, rfl, S.st, W.C_Store, W.na_Store_room, rfl, ?_⟩
    refine ⟨_, rfl, ?_⟩
    refine iteD (fun h => ?_) (fun h => ?_)
    · have h : room < (ws.length : Int) + 3 + z := h
      refine ⟨_, rfl, ?_⟩
      refine exc1_mk ?_ fun d hd => k1 h d hd
      show (3 + (z : Int)).natAbs.log2 < 1920
      have := Nat.log2_le_self (3 + (z : Int)).natAbs
      omega
    · have h : ¬ room < (ws.length : Int) + 3 + z := h
      refine ⟨_, rfl, st, dx, _, rfl, S.st, rfl, ?_⟩
      refine ⟨st, dx, wl, pl, room, entries, least, ws, kvs, rfl, S, hs, he, fun m H1 S1 fr hs1 hm => ⟨fun hme => ?_, fun hme d hd => k2 h m H1 S1 (fun b o e n => by rw [fr b (fun z => n (by simp [z]))]; exact e) hs1 hm hme d hd⟩⟩
      have n1 : st ≠ pl := ne_of S1.st S1.pl (by intro z; cases z)
      have n2 : wl ≠ pl := ne_of S1.wl S1.pl (by intro z; cases z)
      have n3 : st ≠ wl := ne_of S1.st S1.wl (by intro z; cases z)
      refine ⟨_, rfl, st, _, dx, _, _, rfl, S1.st, W.C_Store, W.na_Store_words, rfl, ?_⟩
      refine Or.inl ⟨_, Or.inl (SqL.of S1.wl), ?_⟩
      rw [List.length_map]
      refine ⟨_, rfl, st, _, dx, _, _, rfl, S1.st, W.C_Store, W.na_Store__places, rfl, ?_⟩
      refine ⟨_, rfl, pl, _, rfl, DPut.k (k := Sum.inl m) S1.pl (by rw [sizeLine_eq]; omega), ?_⟩
      generalize e2 : upd H1 pl (.dK (putK kvs (Sum.inl m) (.int (ws.length : Int)))) = H2
      have s2 : H2 st = some (.ins W.c_Store dx (sF room entries wl pl m)) := by rw [← e2, upd_ne n1]; exact S1.st
      have w2 : H2 wl = some (.lst (ws.map V.int)) := by rw [← e2, upd_ne n2]; exact S1.wl
      have p2 : H2 pl = some (.dK (putK kvs (Sum.inl m) (.int (ws.length : Int)))) := by rw [← e2]; exact upd_same
      have f2 : Fr [st, wl, pl] H H2 := by
        refine Fr.trans (H1 := H1) (fun b o e n => ?_) (by rw [← e2]; exact Fr.at (by simp))
        rw [fr b (fun z => n (by simp [z]))]; exact e
      refine ⟨_, rfl, st, _, dx, _, _, rfl, s2, W.C_Store, W.na_Store_words, rfl, Or.inl ⟨rfl, _, SqL.of w2⟩, ?_⟩
      refine ⟨_, rfl, _, rfl, _, rfl, (by show 3 ≤ sizeLine; decide), fun q hq => ?_⟩
      have nq : wl ≠ q := ne_of_none w2 hq
      refine ⟨wl, q, _, _, rfl, rfl, (by rw [upd_ne nq]; exact w2), upd_same, (by rw [List.length_map, sizeLine_eq]; show ws.length + 3 ≤ _; omega), ?_⟩
      have ew : ws.map V.int ++ [V.int m, .int (z : Int), .int x] = (ws ++ [m, (z : Int), x]).map V.int := by rw [List.map_append]; rfl
      rw [ew]
      generalize e3 : upd (upd H2 q (.lst [V.int m, .int (z : Int), .int x])) wl (.lst ((ws ++ [m, (z : Int), x]).map V.int)) = H3
      have s3 : H3 st = some (.ins W.c_Store dx (sF room entries wl pl m)) := by rw [← e3, upd_ne n3, upd_ne (ne_of_none s2 hq)]; exact s2
      have w3 : H3 wl = some (.lst ((ws ++ [m, (z : Int), x]).map V.int)) := by rw [← e3]; exact upd_same
      have p3 : H3 pl = some (.dK (putK kvs (Sum.inl m) (.int (ws.length : Int)))) := by rw [← e3, upd_ne n2.symm, upd_ne (ne_of_none p2 hq)]; exact p2
      have f3 : Fr [st, wl, pl] H H3 := by
        rw [← e3]
        exact (f2.trans (Fr.new hq)).trans (Fr.at (by simp))
      refine ⟨_, rfl, st, _, dx, _, _, rfl, s3, W.C_Store, W.na_Store_words, rfl, Or.inl ⟨rfl, _, SqL.of w3⟩, ?_⟩
      refine ⟨(by show 1 ≤ sizeLine; decide), fun q1 hq1 => ?_⟩
      refine ⟨_, rfl, ?_⟩
      refine ⟨q1, (z : Int), _, rfl, rfl, upd_same, by omega, by omega, (by show 1 * ((z : Int)).toNat ≤ _; rw [sizeLine_eq]; omega), fun q2 hq2 => ?_⟩
      rw [Int.toNat_natCast, rep_int]
      have f4 := (f3.trans (Fr.new (o := .lst [V.int 0]) hq1)).trans (Fr.new (o := .lst ((List.replicate z (0 : Int)).map V.int)) hq2)
      generalize e5 : upd (upd H3 q1 (.lst [V.int 0])) q2 (.lst ((List.replicate z (0 : Int)).map V.int)) = H5
      have g5 : ∀ b o, H3 b = some o → H5 b = some o := fun b o e => by
        have h1 : upd H3 q1 (.lst [V.int 0]) b = some o := by rw [upd_ne (ne_of_none e hq1)]; exact e
        rw [← e5, upd_ne (ne_of_none h1 hq2)]; exact h1
      rw [e5] at f4
      refine ⟨wl, q2, _, _, rfl, rfl, g5 _ _ w3, (by rw [← e5]; exact upd_same), (by simp only [List.length_map, List.length_append, List.length_replicate]; rw [sizeLine_eq]; show ws.length + 3 + z ≤ _; omega), ?_⟩
      have ew2 : (ws ++ [m, (z : Int), x]).map V.int ++ (List.replicate z (0 : Int)).map V.int = (ws ++ (m :: (z : Int) :: x :: List.replicate z 0)).map V.int := by rw [← List.map_append, List.append_assoc]; rfl
      rw [ew2]
      refine ⟨_, rfl, ?_⟩
      refine k3 h m _ ⟨?_, upd_same, ?_⟩ (f4.trans (Fr.at (by simp))) hs1 hm hme
      · rw [upd_ne n3]; exact g5 _ _ s3
      · rw [upd_ne n2.symm]; exact g5 _ _ p3
end

end LX
namespace LX
open PySem PySem.Spec PyProof.Rows L2 NdefX
/-! ### the row of objects, plainly -/
structure Ob where
  num : Int
  kind : Int
  sl : List Int
  live : Bool
def fl (o : Ob) : List Int := o.num :: (o.sl.length : Int) :: o.kind :: o.sl
def flat (O : List Ob) : List Int := O.flatMap fl
def off (O : List Ob) (i : Nat) : Nat := (flat (O.take i)).length
theorem flat_app (A B : List Ob) : flat (A ++ B) = flat A ++ flat B := List.flatMap_append
theorem flat_cons (o : Ob) (B : List Ob) : flat (o :: B) = fl o ++ flat B := List.flatMap_cons
theorem fl_len (o : Ob) : (fl o).length = 3 + o.sl.length := by unfold fl; simp; omega
theorem split_at {α : Type} {l : List α} {i : Nat} {x : α} (h : l[i]? = some x) : l = l.take i ++ x :: l.drop (i + 1) := by
  obtain ⟨hi, e⟩ := List.getElem?_eq_some_iff.mp h
  subst e
  rw [List.getElem_cons_drop, List.take_append_drop]
theorem flat_split {O : List Ob} {i : Nat} {o : Ob} (h : O[i]? = some o) : flat O = flat (O.take i) ++ (fl o ++ flat (O.drop (i + 1))) := by
  rw [← flat_cons, ← flat_app, ← split_at h]
theorem flat_set {O : List Ob} {i : Nat} {o o' : Ob} (h : O[i]? = some o) : flat (O.set i o') = flat (O.take i) ++ (fl o' ++ flat (O.drop (i + 1))) := by
  have hi := (List.getElem?_eq_some_iff.mp h).1
  rw [List.set_eq_take_append_cons_drop, if_pos hi, flat_app, flat_cons]
theorem off_lt {O : List Ob} {i : Nat} {o : Ob} (h : O[i]? = some o) : off O i + 3 + o.sl.length ≤ (flat O).length := by
  have := congrArg List.length (flat_split h)
  rw [List.length_append, List.length_append, fl_len] at this
  unfold off
  omega
theorem at_split {α : Type} {A B l : List α} {k : Nat} (hk : k < l.length) : (A ++ (l ++ B))[A.length + k]? = l[k]? := by
  rw [List.getElem?_append_right (by omega), Nat.add_sub_cancel_left, List.getElem?_append_left hk]
theorem flat_at {O : List Ob} {i k : Nat} {o : Ob} (h : O[i]? = some o) (hk : k < (fl o).length) : (flat O)[off O i + k]? = (fl o)[k]? := by
  have e := flat_split h
  have := at_split (A := flat (O.take i)) (B := flat (O.drop (i + 1))) hk
  rw [← e] at this
  exact this
theorem flat_num {O : List Ob} {i : Nat} {o : Ob} (h : O[i]? = some o) : (flat O)[off O i]? = some o.num := flat_at (k := 0) h (by rw [fl_len]; omega)
theorem flat_size {O : List Ob} {i : Nat} {o : Ob} (h : O[i]? = some o) : (flat O)[off O i + 1]? = some (o.sl.length : Int) := flat_at (k := 1) h (by rw [fl_len]; omega)
theorem flat_kind {O : List Ob} {i : Nat} {o : Ob} (h : O[i]? = some o) : (flat O)[off O i + 2]? = some o.kind := flat_at (k := 2) h (by rw [fl_len]; omega)
theorem flat_slots {O : List Ob} {i : Nat} {o : Ob} (h : O[i]? = some o) : seg (flat O) (off O i + 3) o.sl.length = o.sl := by
  unfold seg
  rw [flat_split h, ← List.drop_drop]
  unfold off
  rw [List.drop_left]
  show ((o.sl ++ flat (O.drop (i + 1))).take _) = _
  rw [List.take_left]
theorem set_split {α : Type} {A B l : List α} {k : Nat} {x : α} (hk : k < l.length) : (A ++ (l ++ B)).set (A.length + k) x = A ++ (l.set k x ++ B) := by
  rw [List.set_append_right _ _ (by omega), Nat.add_sub_cancel_left, List.set_append_left _ _ hk]
theorem set_flat {O : List Ob} {i k : Nat} {o o' : Ob} {x : Int} (h : O[i]? = some o) (hk : k < (fl o).length) (e : (fl o).set k x = fl o') : (flat O).set (off O i + k) x = flat (O.set i o') := by
  rw [flat_set h, ← e]
  have := set_split (A := flat (O.take i)) (B := flat (O.drop (i + 1))) (x := x) hk
  rw [← flat_split h] at this
  exact this
theorem set_num {O : List Ob} {i : Nat} {o : Ob} (x : Int) (h : O[i]? = some o) : (flat O).set (off O i) x = flat (O.set i { o with num := x }) := set_flat (k := 0) h (by rw [fl_len]; omega) rfl
theorem set_kind {O : List Ob} {i : Nat} {o : Ob} (x : Int) (h : O[i]? = some o) : (flat O).set (off O i + 2) x = flat (O.set i { o with kind := x }) := set_flat (k := 2) h (by rw [fl_len]; omega) rfl
theorem set_slot {O : List Ob} {i a : Nat} {o : Ob} (x : Int) (h : O[i]? = some o) (ha : a < o.sl.length) : (flat O).set (off O i + 3 + a) x = flat (O.set i { o with sl := o.sl.set a x }) := by
  have := set_flat (k := 3 + a) (o' := { o with sl := o.sl.set a x }) (x := x) h (by rw [fl_len]; omega) (by
    unfold fl
    rw [show 3 + a = a + 1 + 1 + 1 by omega]
    simp)
  rw [← this, Nat.add_assoc]
theorem flat_kill {O : List Ob} {i : Nat} {o : Ob} (h : O[i]? = some o) (b : Bool) : flat (O.set i { o with live := b }) = flat O := by
  rw [flat_set h, flat_split h]; rfl
theorem off_set {O : List Ob} {i j : Nat} {o o' : Ob} (h : O[i]? = some o) (hl : o'.sl.length = o.sl.length) : off (O.set i o') j = off O j := by
  unfold off
  rw [List.take_set]
  by_cases hij : i < j
  · have h' : (O.take j)[i]? = some o := by rw [List.getElem?_take, if_pos hij]; exact h
    rw [flat_set h', flat_split h', List.length_append, List.length_append, List.length_append, List.length_append, fl_len, fl_len, hl]
  · rw [List.set_eq_of_length_le (by rw [List.length_take]; omega)]
theorem off_app {O B : List Ob} {i : Nat} (h : i ≤ O.length) : off (O ++ B) i = off O i := by
  unfold off
  rw [List.take_append_of_le_length h]
theorem off_end {O : List Ob} : off O O.length = (flat O).length := by unfold off; rw [List.take_length]
/-! ### tables -/
section
variable {κ : Type} [DecidableEq κ]
theorem valV_drop (k j : κ) : ∀ kvs : List (κ × V), valV (dropK kvs k) j = if j = k then none else valV kvs j
  | [] => by simp [dropK, valV]
  | p :: r => by
    have ih := valV_drop k j r
    unfold dropK at ih ⊢
    by_cases e : p.1 = k
    · rw [List.filter_cons_of_neg (by simp [e]), ih]
      by_cases hj : j = k
      · rw [if_pos hj, if_pos hj]
      · rw [if_neg hj, if_neg hj, valV_neg (fun z => hj (z.symm.trans e))]
    · rw [List.filter_cons_of_pos (by simp [e])]
      by_cases hp : p.1 = j
      · rw [valV_pos hp, valV_pos hp, if_neg (fun z => e (hp.trans z))]
      · rw [valV_neg hp, valV_neg hp, ih]
theorem nd_drop {kvs : List (κ × V)} {k : κ} (h : (kvs.map (·.1)).Nodup) : ((dropK kvs k).map (·.1)).Nodup := h.sublist (List.Sublist.map _ List.filter_sublist)
theorem mem_val {kvs : List (κ × V)} {k : κ} (h : k ∈ kvs.map (·.1)) : ∃ v, valV kvs k = some v := by
  obtain ⟨p, hp, e⟩ := List.mem_map.mp h
  have : (valV kvs k).isSome = true := by
    rw [← valV_any]
    exact List.any_eq_true.mpr ⟨p, hp, decide_eq_true e⟩
  exact Option.isSome_iff_exists.mp this
theorem nd_put {kvs : List (κ × V)} {k : κ} {v : V} (h : (kvs.map (·.1)).Nodup) : ((putK kvs k v).map (·.1)).Nodup := by
  unfold putK
  split
  · have e : ∀ l : List (κ × V), (l.map (fun kv => if kv.1 = k then (kv.1, v) else kv)).map (·.1) = l.map (·.1) := by
      intro l
      rw [List.map_map]
      apply List.map_congr_left
      intro a _
      show (if a.1 = k then (a.1, v) else a).1 = a.1
      split <;> rfl
    rw [e]; exact h
  · rename_i hn
    rw [List.map_append]
    refine List.nodup_append.mpr ⟨h, by simp, fun a ha b hb e => ?_⟩
    subst e
    have hb : a = k := by simpa using hb
    subst hb
    obtain ⟨v, hv⟩ := mem_val ha
    rw [valV_any, hv] at hn
    exact hn rfl
end
/-- the table and the words tell the row -/
structure Good (O : List Ob) (kvs : List (Key × V)) (least : Int) : Prop where
  val : ∀ k v, valV kvs k = some v ↔ ∃ i o, O[i]? = some o ∧ o.live = true ∧ k = .inl o.num ∧ v = .int (off O i : Nat)
  nd : (kvs.map (·.1)).Nodup
  un : ∀ (i j : Nat) (o o' : Ob), O[i]? = some o → O[j]? = some o' → o.live = true → o'.live = true → o.num = o'.num → i = j
  seen : Seen kvs least
theorem Good.at {O : List Ob} {kvs : List (Key × V)} {least : Int} (G : Good O kvs least) {i : Nat} {o : Ob} (h : O[i]? = some o) (hl : o.live = true) : valV kvs (.inl o.num) = some (.int (off O i : Nat)) := (G.val _ _).mpr ⟨i, o, h, hl, rfl, rfl⟩
theorem Good.ints {O : List Ob} {kvs : List (Key × V)} {least : Int} (G : Good O kvs least) : ∃ ns : List Int, kvs.map (·.1) = ns.map Sum.inl ∧ ns.Perm ((O.filter (·.live)).map (·.num)) := by
  have hk : ∀ k ∈ kvs.map (·.1), ∃ n, k = Sum.inl n := fun k hk => by
    obtain ⟨v, hv⟩ := mem_val hk
    obtain ⟨i, o, _, _, e, _⟩ := (G.val _ _).mp hv
    exact ⟨_, e⟩
  obtain ⟨ns, hns⟩ : ∃ ns : List Int, kvs.map (·.1) = ns.map Sum.inl := by
    generalize kvs.map (·.1) = l at hk
    induction l with
    | nil => exact ⟨[], rfl⟩
    | cons a r ih =>
      obtain ⟨n, e⟩ := hk a List.mem_cons_self
      obtain ⟨m, em⟩ := ih fun k h => hk k (List.mem_cons_of_mem _ h)
      exact ⟨n :: m, by rw [e, em]; rfl⟩
  refine ⟨ns, hns, ?_⟩
  have nd1 : ns.Nodup := by
    have := G.nd
    rw [hns] at this
    exact (List.pairwise_map.mp this).imp fun h e => h (by rw [e])
  have nd2 : ((O.filter (·.live)).map (·.num)).Nodup := by
    have key : ∀ (l : List Ob), (∀ (i j : Nat) (o o' : Ob), l[i]? = some o → l[j]? = some o' → o.live = true → o'.live = true → o.num = o'.num → i = j) → ((l.filter (·.live)).map (·.num)).Nodup := by
      intro l
      induction l with
      | nil => intro _; exact List.nodup_nil
      | cons a r ih =>
        intro h
        have ihr := ih fun i j o o' h1 h2 l1 l2 e => by
          have := h (i + 1) (j + 1) o o' h1 h2 l1 l2 e
          omega
        by_cases ha : a.live = true
        · rw [List.filter_cons_of_pos (by exact ha), List.map_cons]
          refine List.nodup_cons.mpr ⟨fun hm => ?_, ihr⟩
          obtain ⟨o, ho, e⟩ := List.mem_map.mp hm
          obtain ⟨h1, h2⟩ := List.mem_filter.mp ho
          obtain ⟨j, hj⟩ := List.getElem?_of_mem h1
          have := h 0 (j + 1) a o rfl hj ha h2 e.symm
          omega
        · rw [List.filter_cons_of_neg (by exact ha)]
          exact ihr
    exact key O G.un
  refine (List.perm_ext_iff_of_nodup nd1 nd2).mpr fun n => ?_
  have h1 : n ∈ ns ↔ (Sum.inl n : Key) ∈ kvs.map (·.1) := by
    rw [hns]
    constructor
    · exact fun h => List.mem_map.mpr ⟨n, h, rfl⟩
    · intro h
      obtain ⟨m, hm, e⟩ := List.mem_map.mp h
      cases e
      exact hm
  rw [h1]
  constructor
  · intro h
    obtain ⟨v, hv⟩ := mem_val h
    obtain ⟨i, o, q1, q2, q3, _⟩ := (G.val _ _).mp hv
    cases q3
    exact List.mem_map.mpr ⟨o, List.mem_filter.mpr ⟨List.mem_of_getElem? q1, q2⟩, rfl⟩
  · intro h
    obtain ⟨o, ho, e⟩ := List.mem_map.mp h
    obtain ⟨h1, h2⟩ := List.mem_filter.mp ho
    obtain ⟨i, hi⟩ := List.getElem?_of_mem h1
    have := val_mem (G.at hi h2)
    rw [e] at this
    exact List.mem_map.mpr ⟨_, this, rfl⟩
theorem set_get {O : List Ob} {i j : Nat} {o o' : Ob} (h : O[i]? = some o) : (O.set i o')[j]? = if j = i then some o' else O[j]? := by
  have hi := (List.getElem?_eq_some_iff.mp h).1
  rw [List.getElem?_set]
  by_cases e : i = j
  · subst e; simp [hi]
  · rw [if_neg e, if_neg (Ne.symm e)]
/-- the contents of an object change -/
theorem Good.same {O : List Ob} {kvs : List (Key × V)} {least : Int} (G : Good O kvs least) {i : Nat} {o o' : Ob} (h : O[i]? = some o) (hn : o'.num = o.num) (hv : o'.live = o.live) (hl : o'.sl.length = o.sl.length) : Good (O.set i o') kvs least := by
  refine ⟨fun k v => ?_, G.nd, fun a b x y ha hb la lb e => ?_, G.seen⟩
  · rw [G.val k v]
    constructor
    · rintro ⟨j, x, hj, lx, rfl, rfl⟩
      by_cases e : j = i
      · subst e
        rw [h] at hj; cases hj
        exact ⟨j, o', by rw [set_get h, if_pos rfl], by rw [hv]; exact lx, by rw [hn], by rw [off_set h hl]⟩
      · exact ⟨j, x, by rw [set_get h, if_neg e]; exact hj, lx, rfl, by rw [off_set h hl]⟩
    · rintro ⟨j, x, hj, lx, rfl, rfl⟩
      rw [set_get h] at hj
      rw [off_set h hl]
      by_cases e : j = i
      · subst e
        rw [if_pos rfl] at hj; cases hj
        exact ⟨j, o, h, by rw [← hv]; exact lx, by rw [hn], rfl⟩
      · rw [if_neg e] at hj
        exact ⟨j, x, hj, lx, rfl, rfl⟩
  · have g : ∀ (a : Nat) (x : Ob), (O.set i o')[a]? = some x → ∃ z, O[a]? = some z ∧ z.live = x.live ∧ z.num = x.num := fun a x ha => by
      rw [set_get h] at ha
      by_cases e : a = i
      · subst e; rw [if_pos rfl] at ha; cases ha
        exact ⟨o, h, hv.symm, hn.symm⟩
      · rw [if_neg e] at ha; exact ⟨x, ha, rfl, rfl⟩
    obtain ⟨z1, q1, q2, q3⟩ := g a x ha
    obtain ⟨z2, r1, r2, r3⟩ := g b y hb
    exact G.un a b z1 z2 q1 r1 (q2.trans la) (r2.trans lb) (by rw [q3, r3, e])
theorem Good.kill {O : List Ob} {kvs : List (Key × V)} {least : Int} (G : Good O kvs least) {i : Nat} {o : Ob} (h : O[i]? = some o) (ho : o.live = true) (hn : 0 ≤ o.num) :
    Good (O.set i { o with live := false }) (dropK kvs (.inl o.num)) (if o.num < least then o.num else least) := by
  refine ⟨fun k v => ?_, nd_drop G.nd, fun a b x y ha hb la lb e => ?_, ?_⟩
  · rw [valV_drop]
    constructor
    · intro hv
      split at hv
      · cases hv
      · rename_i hk
        obtain ⟨j, x, hj, lx, rfl, rfl⟩ := (G.val _ _).mp hv
        have e : j ≠ i := fun e => by subst e; rw [h] at hj; cases hj; exact hk rfl
        exact ⟨j, x, by rw [set_get h, if_neg e]; exact hj, lx, rfl, by rw [off_set (o' := { o with live := false }) h rfl]⟩
    · rintro ⟨j, x, hj, lx, rfl, rfl⟩
      rw [set_get h] at hj
      rw [off_set (o' := { o with live := false }) h rfl]
      by_cases e : j = i
      · subst e; rw [if_pos rfl] at hj; cases hj; cases lx
      · rw [if_neg e] at hj
        rw [if_neg (fun z => e (G.un j i x o hj h lx ho (Sum.inl.inj z)))]
        exact (G.val _ _).mpr ⟨j, x, hj, lx, rfl, rfl⟩
  · have g : ∀ (a : Nat) (x : Ob), x.live = true → (O.set i { o with live := false })[a]? = some x → O[a]? = some x := fun a x lx ha => by
      rw [set_get h] at ha
      by_cases e : a = i
      · subst e; rw [if_pos rfl] at ha; cases ha; cases lx
      · rw [if_neg e] at ha; exact ha
    exact G.un a b x y (g a x la ha) (g b y lb hb) la lb e
  · have hs := G.seen
    refine ⟨by split; exact hn; exact hs.1, fun n h0 h1 => ?_⟩
    rw [valV_drop]
    have h2 : n < o.num ∧ n < least ∨ ¬ o.num < least ∧ n < least := by split at h1 <;> omega
    rw [if_neg (fun z => by have := Sum.inl.inj z; omega)]
    exact hs.2 n h0 (by omega)
def swapO (O : List Ob) (i j : Nat) (a b : Ob) : List Ob := (O.set i { a with num := b.num }).set j { b with num := a.num }
theorem swap_get {O : List Ob} {i j k : Nat} {a b : Ob} (ha : O[i]? = some a) (hb : O[j]? = some b) : (swapO O i j a b)[k]? = if k = j then some { b with num := a.num } else if k = i then some { a with num := b.num } else O[k]? := by
  unfold swapO
  have hj : (O.set i { a with num := b.num })[j]? = some (if j = i then { a with num := b.num } else b) := by
    rw [set_get ha]
    split
    · rfl
    · exact hb
  rw [set_get hj, set_get ha]
theorem swap_off {O : List Ob} {i j k : Nat} {a b : Ob} (ha : O[i]? = some a) (hb : O[j]? = some b) : off (swapO O i j a b) k = off O k := by
  unfold swapO
  have hj : (O.set i { a with num := b.num })[j]? = some (if j = i then { a with num := b.num } else b) := by
    rw [set_get ha]
    split
    · rfl
    · exact hb
  rw [off_set hj, off_set ha] <;> (try rfl)
  split
  · rename_i e; subst e; rw [ha] at hb; cases hb; rfl
  · rfl
theorem swap_flat {O : List Ob} {i j : Nat} {a b : Ob} (ha : O[i]? = some a) (hb : O[j]? = some b) : ((flat O).set (off O i) b.num).set (off O j) a.num = flat (swapO O i j a b) := by
  have hj : (O.set i { a with num := b.num })[j]? = some (if j = i then { a with num := b.num } else b) := by
    rw [set_get ha]
    split
    · rfl
    · exact hb
  rw [set_num b.num ha]
  have e : off O j = off (O.set i { a with num := b.num }) j := (off_set (o' := { a with num := b.num }) ha rfl).symm
  rw [e, set_num a.num hj]
  unfold swapO
  congr 1
  by_cases q : j = i
  · subst q; rw [ha] at hb; cases hb
    rw [if_pos rfl]
  · rw [if_neg q]
theorem Good.swap {O : List Ob} {kvs : List (Key × V)} {least : Int} (G : Good O kvs least) {i j : Nat} {a b : Ob} (ha : O[i]? = some a) (hb : O[j]? = some b) (la : a.live = true) (lb : b.live = true) :
    Good (swapO O i j a b) (putK (putK kvs (.inl a.num) (.int (off O j : Nat))) (.inl b.num) (.int (off O i : Nat))) least := by
  have vv : ∀ k, valV (putK (putK kvs (.inl a.num) (.int (off O j : Nat))) (.inl b.num) (.int (off O i : Nat))) k = if k = .inl b.num then some (.int (off O i : Nat)) else if k = .inl a.num then some (.int (off O j : Nat)) else valV kvs k := fun k => by rw [valV_put, valV_put]
  refine ⟨fun k v => ?_, nd_put (nd_put G.nd), fun p q x y hp hq lx ly e => ?_, G.seen.1, fun n h0 h1 => ?_⟩
  · rw [vv]
    constructor
    · intro hv
      split at hv
      · rename_i hk
        cases hv
        by_cases q : i = j
        · subst q; rw [ha] at hb; cases hb
          exact ⟨i, { a with num := a.num }, by rw [swap_get ha ha, if_pos rfl], la, hk, by rw [swap_off ha ha]⟩
        · exact ⟨i, { a with num := b.num }, by rw [swap_get ha hb, if_neg q, if_pos rfl], la, hk, by rw [swap_off ha hb]⟩
      · split at hv
        · rename_i hk
          cases hv
          exact ⟨j, { b with num := a.num }, by rw [swap_get ha hb, if_pos rfl], lb, hk, by rw [swap_off ha hb]⟩
        · rename_i k1 k2
          obtain ⟨m, x, hm, lx, rfl, rfl⟩ := (G.val _ _).mp hv
          have e1 : m ≠ j := fun e => by subst e; rw [hb] at hm; cases hm; exact k1 rfl
          have e2 : m ≠ i := fun e => by subst e; rw [ha] at hm; cases hm; exact k2 rfl
          exact ⟨m, x, by rw [swap_get ha hb, if_neg e1, if_neg e2]; exact hm, lx, rfl, by rw [swap_off ha hb]⟩
    · rintro ⟨m, x, hm, lx, rfl, rfl⟩
      rw [swap_get ha hb] at hm
      rw [swap_off ha hb]
      by_cases e1 : m = j
      · subst e1
        rw [if_pos rfl] at hm; cases hm
        by_cases q : a.num = b.num
        · have := G.un i m a b ha hb la lb q
          subst this
          rw [if_pos (by rw [q])]
        · rw [if_neg (fun z => q (Sum.inl.inj z)), if_pos rfl]
      · rw [if_neg e1] at hm
        by_cases e2 : m = i
        · subst e2
          rw [if_pos rfl] at hm; cases hm
          rw [if_pos rfl]
        · rw [if_neg e2] at hm
          rw [if_neg (fun z => e1 (G.un m j x b hm hb lx lb (Sum.inl.inj z))), if_neg (fun z => e2 (G.un m i x a hm ha lx la (Sum.inl.inj z)))]
          exact (G.val _ _).mpr ⟨m, x, hm, lx, rfl, rfl⟩
  · rw [swap_get ha hb] at hp hq
    by_cases p1 : p = j <;> by_cases q1 : q = j
    · omega
    · subst p1
      rw [if_pos rfl] at hp; cases hp
      rw [if_neg q1] at hq
      by_cases q2 : q = i
      · subst q2; rw [if_pos rfl] at hq; cases hq
        exact (G.un q p a b ha hb la lb e).symm
      · rw [if_neg q2] at hq
        exact absurd (G.un i q a y ha hq la ly e).symm q2
    · subst q1
      rw [if_pos rfl] at hq; cases hq
      rw [if_neg p1] at hp
      by_cases p2 : p = i
      · subst p2; rw [if_pos rfl] at hp; cases hp
        exact G.un p q a b ha hb la lb e.symm
      · rw [if_neg p2] at hp
        exact absurd (G.un p i x a hp ha lx la e) p2
    · rw [if_neg p1] at hp
      rw [if_neg q1] at hq
      by_cases p2 : p = i <;> by_cases q2 : q = i
      · omega
      · subst p2; rw [if_pos rfl] at hp; cases hp
        rw [if_neg q2] at hq
        exact absurd (G.un j q b y hb hq lb ly e).symm q1
      · subst q2; rw [if_pos rfl] at hq; cases hq
        rw [if_neg p2] at hp
        exact absurd (G.un p j x b hp hb lx lb e) p1
      · rw [if_neg p2] at hp; rw [if_neg q2] at hq
        exact G.un p q x y hp hq lx ly e
  · rw [vv]
    split
    · rfl
    · split
      · rfl
      · exact G.seen.2 n h0 h1
theorem Good.add {O : List Ob} {kvs : List (Key × V)} {least : Int} (G : Good O kvs least) {o : Ob} (ho : o.live = true) (hn : valV kvs (.inl o.num) = none) (hs : Seen kvs o.num) :
    Good (O ++ [o]) (putK kvs (.inl o.num) (.int (flat O).length)) o.num := by
  have no : ∀ (i : Nat) (x : Ob), O[i]? = some x → x.live = true → x.num ≠ o.num := fun i x hi lx e => by
    have := G.at hi lx
    rw [e, hn] at this
    cases this
  have ga : ∀ k : Nat, (O ++ [o])[k]? = if k < O.length then O[k]? else if k = O.length then some o else none := fun k => by
    by_cases h : k < O.length
    · rw [if_pos h, List.getElem?_append_left h]
    · rw [if_neg h, List.getElem?_append_right (by omega)]
      by_cases h2 : k = O.length
      · rw [if_pos h2, h2, Nat.sub_self]; rfl
      · rw [if_neg h2]
        exact List.getElem?_eq_none_iff.mpr (by simp; omega)
  refine ⟨fun k v => ?_, nd_put G.nd, fun p q x y hp hq lx ly e => ?_, hs.1, fun n h0 h1 => ?_⟩
  · rw [valV_put]
    constructor
    · intro hv
      split at hv
      · rename_i hk
        cases hv
        exact ⟨O.length, o, by rw [ga, if_neg (by omega), if_pos rfl], ho, hk, by rw [off_app (Nat.le_refl _), off_end]⟩
      · obtain ⟨m, x, hm, lx, rfl, rfl⟩ := (G.val _ _).mp hv
        have hl := (List.getElem?_eq_some_iff.mp hm).1
        exact ⟨m, x, by rw [ga, if_pos hl]; exact hm, lx, rfl, by rw [off_app (by omega)]⟩
    · rintro ⟨m, x, hm, lx, rfl, rfl⟩
      rw [ga] at hm
      by_cases hl : m < O.length
      · rw [if_pos hl] at hm
        rw [off_app (by omega), if_neg (fun z => no m x hm lx (Sum.inl.inj z))]
        exact (G.val _ _).mpr ⟨m, x, hm, lx, rfl, rfl⟩
      · rw [if_neg hl] at hm
        split at hm
        · rename_i e; cases hm
          rw [if_pos rfl, e, off_app (Nat.le_refl _), off_end]
        · cases hm
  · rw [ga] at hp hq
    split at hp
    · split at hq
      · exact G.un p q x y hp hq lx ly e
      · split at hq
        · cases hq; exact absurd e (no p x hp lx)
        · cases hq
    · split at hp
      · cases hp
        split at hq
        · exact absurd e.symm (no q y hq ly)
        · split at hq
          · omega
          · cases hq
      · cases hp
  · rw [valV_put]
    split
    · rfl
    · exact hs.2 n h0 h1

end LX
namespace LX
open PySem PySem.Spec PyProof.Rows L2 NdefX
structure RowAt (H : Hp) (rl : Addr) (A : List (Addr × Addr)) (O : List Ob) : Prop where
  rl : H rl = some (.lst (A.map fun a => V.ref a.1))
  len : A.length = O.length
  it : ∀ (i : Nat) (a : Addr × Addr) (o : Ob), A[i]? = some a → O[i]? = some o → H a.1 = some (.lst [.int o.num, .int o.kind, .ref a.2, .bl o.live]) ∧ H a.2 = some (.lst (o.sl.map V.int))
structure Sep (A : List (Addr × Addr)) (rl : Addr) (X : List Addr) : Prop where
  d1 : ∀ (i j : Nat) (a b : Addr × Addr), A[i]? = some a → A[j]? = some b → (a.1 = b.1 ∨ a.2 = b.2) → i = j
  d2 : ∀ a b, a ∈ A → b ∈ A → a.1 ≠ b.2
  d3 : ∀ a ∈ A, a.1 ≠ rl ∧ a.2 ≠ rl
  d4 : rl ∉ X
  d5 : ∀ a ∈ A, a.1 ∉ X ∧ a.2 ∉ X
theorem RowAt.keep {H H' : Hp} {rl : Addr} {A : List (Addr × Addr)} {O : List Ob} {F : List Addr} (R : RowAt H rl A O) (f : Fr F H H') (h1 : rl ∉ F) (h2 : ∀ a ∈ A, a.1 ∉ F ∧ a.2 ∉ F) : RowAt H' rl A O :=
  ⟨f _ _ R.rl h1, R.len, fun i a o ha ho => ⟨f _ _ (R.it i a o ha ho).1 (h2 a (List.mem_of_getElem? ha)).1, f _ _ (R.it i a o ha ho).2 (h2 a (List.mem_of_getElem? ha)).2⟩⟩
theorem RowAt.mono {H H' : Hp} {rl : Addr} {A : List (Addr × Addr)} {O : List Ob} (R : RowAt H rl A O) (f : Fr [] H H') : RowAt H' rl A O := R.keep f (by simp) (by simp)
theorem RowAt.get {H : Hp} {rl : Addr} {A : List (Addr × Addr)} {O : List Ob} (R : RowAt H rl A O) {i : Nat} {o : Ob} (h : O[i]? = some o) : ∃ a, A[i]? = some a ∧ H a.1 = some (.lst [.int o.num, .int o.kind, .ref a.2, .bl o.live]) ∧ H a.2 = some (.lst (o.sl.map V.int)) := by
  have hi := (List.getElem?_eq_some_iff.mp h).1
  have hA : i < A.length := by rw [R.len]; exact hi
  exact ⟨A[i], List.getElem?_eq_getElem hA, R.it i _ o (List.getElem?_eq_getElem hA) h⟩
theorem RowAt.set {H H' : Hp} {rl : Addr} {A : List (Addr × Addr)} {O : List Ob} {X : List Addr} (R : RowAt H rl A O) (D : Sep A rl X) {i : Nat} {a : Addr × Addr} {o o' : Ob} (ha : A[i]? = some a) (ho : O[i]? = some o)
    (h1 : H' a.1 = some (.lst [.int o'.num, .int o'.kind, .ref a.2, .bl o'.live])) (h2 : H' a.2 = some (.lst (o'.sl.map V.int))) (f : Fr (a.1 :: a.2 :: X) H H') : RowAt H' rl A (O.set i o') := by
  have ma := List.mem_of_getElem? ha
  refine ⟨f _ _ R.rl (by have := D.d3 a ma; simp [this.1.symm, this.2.symm, D.d4]), by rw [List.length_set]; exact R.len, fun j b x hb hx => ?_⟩
  rw [set_get ho] at hx
  by_cases e : j = i
  · subst e
    rw [if_pos rfl] at hx; cases hx
    rw [ha] at hb; cases hb
    exact ⟨h1, h2⟩
  · rw [if_neg e] at hx
    have mb := List.mem_of_getElem? hb
    have n1 : b.1 ≠ a.1 := fun z => e (D.d1 j i b a hb ha (Or.inl z))
    have n2 : b.2 ≠ a.2 := fun z => e (D.d1 j i b a hb ha (Or.inr z))
    have n3 : b.1 ≠ a.2 := D.d2 b a mb ma
    have n4 : b.2 ≠ a.1 := (D.d2 a b ma mb).symm
    obtain ⟨q1, q2⟩ := R.it j b x hb hx
    exact ⟨f _ _ q1 (by simp [n1, n3, (D.d5 b mb).1]), f _ _ q2 (by simp [n2, n4, (D.d5 b mb).2])⟩
def ad (A : List (Addr × Addr)) : List Addr := A.flatMap fun a => [a.1, a.2]
theorem ad_mem {A : List (Addr × Addr)} {a : Addr × Addr} (h : a ∈ A) : a.1 ∈ ad A ∧ a.2 ∈ ad A :=
  ⟨List.mem_flatMap.mpr ⟨a, h, by simp⟩, List.mem_flatMap.mpr ⟨a, h, by simp⟩⟩
def Zl (A : List (Addr × Addr)) (O : List Ob) : List ((Addr × Addr) × Ob) := (A.zip O).filter (·.2.live)
theorem Zl_get {A : List (Addr × Addr)} {O : List Ob} {z : (Addr × Addr) × Ob} (h : z ∈ Zl A O) : ∃ i : Nat, A[i]? = some z.1 ∧ O[i]? = some z.2 ∧ z.2.live = true := by
  obtain ⟨h1, h2⟩ := List.mem_filter.mp h
  obtain ⟨i, hi⟩ := List.getElem?_of_mem h1
  obtain ⟨q1, q2⟩ := List.getElem?_zip_eq_some.mp hi
  exact ⟨i, q1, q2, h2⟩
theorem Zl_snd {A : List (Addr × Addr)} {O : List Ob} (h : A.length = O.length) : (Zl A O).map (·.2) = O.filter (·.live) := by
  unfold Zl
  have : ∀ (A : List (Addr × Addr)) (O : List Ob), A.length = O.length → ((A.zip O).filter (·.2.live)).map (·.2) = O.filter (·.live) := by
    intro A
    induction A with
    | nil => intro O h; cases O with
      | nil => rfl
      | cons => simp at h
    | cons a r ih => intro O h; cases O with
      | nil => simp at h
      | cons o t =>
        have := ih t (by simpa using h)
        rw [List.zip_cons_cons]
        by_cases q : o.live = true
        · rw [List.filter_cons_of_pos (by exact q), List.filter_cons_of_pos (by exact q), List.map_cons, this]
        · rw [List.filter_cons_of_neg (by exact q), List.filter_cons_of_neg (by exact q), this]
  exact this A O h
theorem take_filter_yes {α : Type} {l : List α} {p : α → Bool} {i : Nat} {x : α} (h : l[i]? = some x) (hp : p x = true) : (l.take (i + 1)).filter p = (l.take i).filter p ++ [x] := by
  rw [List.take_succ, h, List.filter_append]
  simp [hp]
theorem take_filter_no {α : Type} {l : List α} {p : α → Bool} {i : Nat} {x : α} (h : l[i]? = some x) (hp : p x = false) : (l.take (i + 1)).filter p = (l.take i).filter p := by
  rw [List.take_succ, h, List.filter_append]
  simp [hp]
section
variable {P : Program} {w : World} {K : PySem.W.Frag} {mg : Str → Option Value} {base : Heap}
theorem Fr.skip {F : List Addr} {H H' : Hp} {q : Addr} {o : HO} (f : Fr F H H') (hq : H q = none) : Fr F H (upd H' q o) := fun b u e n => by rw [upd_ne (ne_of_none e hq)]; exact f b u e n
theorem flat_take {O : List Ob} {i : Nat} {o : Ob} (h : O[i]? = some o) : flat (O.take (i + 1)) = flat (O.take i) ++ [o.num, (o.sl.length : Int), o.kind] ++ o.sl := by
  rw [List.take_succ, h, flat_app]
  show flat (O.take i) ++ (fl o ++ []) = _
  rw [List.append_nil, List.append_assoc]
  rfl
def sp_flat : Sp := fun vs H Q _ => ∃ rl A O, vs = [.ref rl] ∧ RowAt H rl A O ∧ (flat O).length ≤ 100000 ∧ ∀ L H', H L = none → IsI H' L (flat O) → Fr [] H H' → Q (.ref L) H'
theorem ok__law_flat (W : WT P K mg base) : FnOk P w K mg base CX0 1 W.f__law_flat W.fd__law_flat ["_law_row"] sp_flat := by
  refine W.F__law_flat.ok sc__law_flat (fun vs H Q E h => ?_) (fun cdv A outer s H vs Q E hr h => ?_)
  · obtain ⟨rl, A, O, rfl, _⟩ := h
    rfl
  · obtain ⟨rl, A, O, rfl, R, hO, k⟩ := h
    have hu1 := hu_of hr
    have hu64 := hu64_of hr
    refine ⟨_, (pss_cons (ps_set (i := 1) sc__law_flat.nd rfl (by first | exact Or.inl rfl | exact Or.inr rfl) (pe_lst pa_nil))
      (pss_cons (ps_for PassesOwn.never rfl (pi_list (pv 0)) (pg_name (i := 2) sc__law_flat.nd rfl (by first | exact Or.inl rfl | exact Or.inr rfl)) (pss_cons (ps_expr (pe_bm PySem.F.plainAttrs_list PySem.F.slot_list_extend PySem.F.type_list_extend mt_extend (pv 1) (pa_cons (pe_lst (pa_cons (pe_ix (ix_U hu1) (pv 2) pe_int (fun _ _ => rfl)) (pa_cons (pe_callB call_lenU (by rfl) W.n_len bb_len (pa_cons (pe_ix (ix_U hu1) (pv 2) pe_int (fun _ _ => rfl)) pa_nil)) (pa_cons (pe_ix (ix_U hu1) (pv 2) pe_int (fun _ _ => rfl)) pa_nil)))) pa_nil)))
      (pss_one (ps_expr (pe_bm PySem.F.plainAttrs_list PySem.F.slot_list_extend PySem.F.type_list_extend mt_extend (pv 1) (pa_cons (pe_ix (ix_U hu1) (pv 2) pe_int (fun _ _ => rfl)) pa_nil))))))
      (pss_one (ps_ret (pv 1))))), ?_⟩
    refine ⟨(by show 0 ≤ sizeLine; decide), fun L hL => ?_⟩
    refine ⟨_, rfl, rl, rfl, ⟨_, SqL.of (by rw [upd_ne (ne_of_none R.rl hL)]; exact R.rl)⟩, ?_⟩
    refine for_list (K := K) (a := rl) (xs := A.map fun a => V.ref a.1) (fun i σ H' => (∃ v, σ = [some (.ref rl), some (.ref L), v]) ∧ IsI H' L (flat (O.take i)) ∧ Fr [] H H') ⟨⟨_, rfl⟩, upd_same, Fr.new hL⟩ (fun i σ H' _ e => ?_) (fun i x σ H' hx e => ?_) (fun σ H' e => ?_)
    · exact SqL.of (R.mono e.2.2).rl
    · obtain ⟨⟨v, rfl⟩, hI, f⟩ := e
      have R1 := R.mono f
      rw [List.getElem?_map] at hx
      obtain ⟨a, ha, rfl⟩ := Option.map_eq_some_iff.mp hx
      have hi : i < O.length := by rw [← R.len]; exact (List.getElem?_eq_some_iff.mp ha).1
      have ho := List.getElem?_eq_getElem hi
      generalize O[i] = o at ho
      obtain ⟨q1, q2⟩ := R1.it i a _ ha ho
      have hb := off_lt ho
      unfold off at hb
      refine ⟨_, rfl, Or.inl ⟨rfl, _, SqL.of hI⟩, ?_⟩
      refine ⟨_, rfl, Or.inl ⟨_, _, _, rfl, Or.inl (SqL.of q1), rfl, ?_⟩⟩
      refine ⟨_, rfl, Or.inl ⟨_, _, _, rfl, Or.inl (SqL.of q1), rfl, Or.inl ⟨_, Or.inl (SqL.of q2), ?_⟩⟩⟩
      rw [List.length_map]
      refine ⟨_, rfl, Or.inl ⟨_, _, _, rfl, Or.inl (SqL.of q1), rfl, ?_⟩⟩
      refine ⟨(by show 3 ≤ sizeLine; decide), fun q hq => ?_⟩
      have nL : L ≠ q := ne_of_none hI hq
      refine ⟨L, q, _, _, rfl, rfl, (by rw [upd_ne nL]; exact hI), upd_same, (by rw [List.length_map, sizeLine_eq]; show (flat (O.take i)).length + 3 ≤ _; omega), ?_⟩
      have e1 : (flat (O.take i)).map V.int ++ [V.int o.num, V.int (o.sl.length : Int), V.int o.kind] = (flat (O.take i) ++ [o.num, (o.sl.length : Int), o.kind]).map V.int := by rw [List.map_append]; rfl
      rw [e1]
      have f2 : Fr [] H (upd (upd H' q (.lst [V.int o.num, V.int (o.sl.length : Int), V.int o.kind])) L (.lst ((flat (O.take i) ++ [o.num, (o.sl.length : Int), o.kind]).map V.int))) := (f.trans (Fr.new hq)).skip hL
      generalize eH : upd (upd H' q (.lst [V.int o.num, V.int (o.sl.length : Int), V.int o.kind])) L (.lst ((flat (O.take i) ++ [o.num, (o.sl.length : Int), o.kind]).map V.int)) = H2 at f2
      have hI2 : IsI H2 L (flat (O.take i) ++ [o.num, (o.sl.length : Int), o.kind]) := by rw [← eH]; exact upd_same
      obtain ⟨q1, q2⟩ := (R.mono f2).it i a _ ha ho
      refine ⟨_, rfl, Or.inl ⟨rfl, _, SqL.of hI2⟩, ?_⟩
      refine ⟨_, rfl, Or.inl ⟨_, _, _, rfl, Or.inl (SqL.of q1), rfl, ?_⟩⟩
      refine ⟨L, a.2, _, _, rfl, rfl, hI2, q2, ?_, ?_⟩
      · simp only [List.length_map, List.length_append]
        rw [sizeLine_eq]; show (flat (O.take i)).length + 3 + o.sl.length ≤ _; omega
      · refine ⟨⟨_, rfl⟩, ?_, f2.skip hL⟩
        rw [flat_take ho]
        show upd _ _ _ _ = _
        rw [upd_same, List.map_append (l₂ := o.sl)]
    · obtain ⟨⟨v, rfl⟩, hI, f⟩ := e
      refine ⟨_, rfl, k L H' hL ?_ f⟩
      rw [List.length_map, R.len, List.take_length] at hI
      exact hI
end

end LX
namespace LX
open PySem PySem.Spec PyProof.Rows L2 NdefX
theorem Fr.of {F : List Addr} {H H' : Hp} {x y : Addr} (h : ∀ b, b ≠ x → b ≠ y → H' b = H b) (hx : x ∈ F) (hy : y ∈ F) : Fr F H H' := fun b o e n => by
  rw [h b (fun z => n (by rw [z]; exact hx)) (fun z => n (by rw [z]; exact hy))]; exact e
theorem StoreAt.keep {H H' : Hp} {C st dx wl pl : Addr} {room entries least : Int} {ws : List Int} {kvs : List (Key × V)} {F : List Addr} (S : StoreAt H C st dx wl pl room entries least ws kvs) (f : Fr F H H') (h : ∀ b, b ∈ [st, wl, pl] → b ∉ F) : StoreAt H' C st dx wl pl room entries least ws kvs :=
  ⟨f _ _ S.st (h _ (by simp)), f _ _ S.wl (h _ (by simp)), f _ _ S.pl (h _ (by simp))⟩
theorem RowAt.setItem {H H' : Hp} {rl : Addr} {A : List (Addr × Addr)} {O : List Ob} {X : List Addr} (R : RowAt H rl A O) (D : Sep A rl X) {i : Nat} {a : Addr × Addr} {o o' : Ob} (ha : A[i]? = some a) (ho : O[i]? = some o) (hs : o'.sl = o.sl)
    (h1 : H' a.1 = some (.lst [.int o'.num, .int o'.kind, .ref a.2, .bl o'.live])) (f : Fr (a.1 :: X) H H') : RowAt H' rl A (O.set i o') := by
  have ma := List.mem_of_getElem? ha
  refine R.set D ha ho h1 ?_ (f.mono fun b hb => by rcases List.mem_cons.mp hb with h | h <;> simp [h])
  rw [hs]
  exact f _ _ (R.it i a o ha ho).2 (by simp [(D.d2 a a ma ma).symm, (D.d5 a ma).2])
theorem RowAt.setSl {H H' : Hp} {rl : Addr} {A : List (Addr × Addr)} {O : List Ob} {X : List Addr} (R : RowAt H rl A O) (D : Sep A rl X) {i : Nat} {a : Addr × Addr} {o o' : Ob} (ha : A[i]? = some a) (ho : O[i]? = some o) (hn : o'.num = o.num) (hk : o'.kind = o.kind) (hv : o'.live = o.live)
    (h2 : H' a.2 = some (.lst (o'.sl.map V.int))) (f : Fr (a.2 :: X) H H') : RowAt H' rl A (O.set i o') := by
  have ma := List.mem_of_getElem? ha
  refine R.set D ha ho ?_ h2 (f.mono fun b hb => by rcases List.mem_cons.mp hb with h | h <;> simp [h])
  rw [hn, hk, hv]
  exact f _ _ (R.it i a o ha ho).1 (by simp [(D.d2 a a ma ma), (D.d5 a ma).1])

end LX
namespace LX
open PySem PySem.Spec PyProof.Rows L2 NdefX
section
variable {P : Program} {w : World} {K : PySem.W.Frag} {mg : Str → Option Value} {base : Heap}
end
theorem Good.kl {O : List Ob} {kvs : List (Key × V)} {least : Int} (G : Good O kvs least) : kvs.length ≤ O.length := by
  obtain ⟨ns, h1, h2⟩ := G.ints
  have e := congrArg List.length h1
  rw [List.length_map, List.length_map, h2.length_eq, List.length_map] at e
  have := List.length_filter_le (fun o : Ob => o.live) O
  omega
theorem get_snoc {α : Type} {l : List α} {x y : α} {k : Nat} (h : (l ++ [x])[k]? = some y) : l[k]? = some y ∨ k = l.length ∧ y = x := by
  by_cases hk : k < l.length
  · rw [List.getElem?_append_left hk] at h; exact Or.inl h
  · rw [List.getElem?_append_right (by omega)] at h
    have hlt := (List.getElem?_eq_some_iff.mp h).1
    have : k - l.length = 0 := by simpa using hlt
    rw [this] at h
    exact Or.inr ⟨by omega, by cases h; rfl⟩
section
variable {P : Program} {w : World} {K : PySem.W.Frag} {mg : Str → Option Value} {base : Heap}
theorem iteE {l : List V} {A B : Prop} (h1 : l ≠ [] → A) (h2 : B) : if (!l.isEmpty) = true then A else B := by
  cases l with
  | nil => exact iteF h2
  | cons a r => exact iteT (h1 (by simp))
theorem get_app {α : Type} {l : List α} {x : α} {i : Nat} {y : α} (h : l[i]? = some y) : (l ++ [x])[i]? = some y := by
  rw [List.getElem?_append_left (List.getElem?_eq_some_iff.mp h).1]; exact h
end
def Live (O : List Ob) (n : Int) : Prop := ∃ (i : Nat) (o : Ob), O[i]? = some o ∧ o.live = true ∧ o.num = n
theorem Good.iff {O : List Ob} {kvs : List (Key × V)} {least : Int} (G : Good O kvs least) (n : Int) : (valV kvs (.inl n)).isSome = true ↔ Live O n := by
  constructor
  · intro h
    obtain ⟨v, hv⟩ := Option.isSome_iff_exists.mp h
    obtain ⟨i, o, h1, h2, h3, _⟩ := (G.val _ _).mp hv
    exact ⟨i, o, h1, h2, (Sum.inl.inj h3).symm⟩
  · rintro ⟨i, o, h1, h2, rfl⟩
    rw [G.at h1 h2]; rfl
theorem nd_len {α : Type} [DecidableEq α] : ∀ (l m : List α), l.Nodup → (∀ x ∈ l, x ∈ m) → l.length ≤ m.length
  | [], _, _, _ => Nat.zero_le _
  | a :: l, m, h, hs => by
    obtain ⟨h1, h2⟩ := List.nodup_cons.mp h
    have hm := hs a List.mem_cons_self
    have := nd_len l (m.erase a) h2 fun x hx => (List.mem_erase_of_ne (fun e => h1 (by rw [← e]; exact hx))).mpr (hs x (List.mem_cons_of_mem _ hx))
    have hl := List.length_erase_of_mem hm
    have : 0 < m.length := List.length_pos_of_mem hm
    rw [List.length_cons]
    omega
theorem sorted_eq {l m : List Int} (h : l.Perm m) (hl : l.Pairwise (· ≤ ·)) (hm : m.Pairwise (· ≤ ·)) : l = m :=
  List.Perm.eq_of_pairwise (fun a b _ _ h1 h2 => Int.le_antisymm h1 h2) hl hm h
theorem perm_of {l m : List Int} (h1 : l.Nodup) (h2 : m.Nodup) (h : ∀ n, n ∈ l ↔ n ∈ m) : l.Perm m := (List.perm_ext_iff_of_nodup h1 h2).mpr h

section
variable {P : Program} {w : World} {K : PySem.W.Frag} {mg : Str → Option Value} {base : Heap}
theorem firstAt {l : List Int} {n : Int} (h : n ∈ l) : ∃ j : Nat, l[j]? = some n ∧ ∀ (m : Nat) (z : Int), m < j → l[m]? = some z → z ≠ n := by
  induction l with
  | nil => simp at h
  | cons a r ih =>
    by_cases e : a = n
    · exact ⟨0, by rw [e]; rfl, fun m z hm => by omega⟩
    · obtain ⟨j, h1, h2⟩ := ih ((List.mem_cons.mp h).resolve_left fun z => e z.symm)
      refine ⟨j + 1, h1, fun m z hm hz => ?_⟩
      cases m with
      | zero => cases hz; exact e
      | succ m => exact h2 m z (by omega) hz
theorem flat_ints (l : List Int) : (l.map V.int).all flatV = true := by rw [List.all_map]; exact List.all_eq_true.mpr fun _ _ => rfl
theorem in_ints (n : Int) (l : List Int) : inV (.int n) (l.map V.int) = decide (n ∈ l) := by
  unfold inV
  rw [List.any_map]
  induction l with
  | nil => simp
  | cons a r ih =>
    rw [List.any_cons, ih]
    show ((a == n) || _) = _
    by_cases e : a = n
    · subst e; simp
    · have e' : ¬ n = a := fun z => e z.symm
      simp [e, e']
end
def lvF : Nat → List Ob → List (Ob × Nat)
  | _, [] => []
  | p, a :: r => if a.live = true then (a, p) :: lvF (p + (fl a).length) r else lvF (p + (fl a).length) r
theorem lvF_cons (p : Nat) (a : Ob) (r : List Ob) : lvF p (a :: r) = if a.live = true then (a, p) :: lvF (p + (fl a).length) r else lvF (p + (fl a).length) r := rfl
theorem lvF_ob : ∀ (p : Nat) (O : List Ob), (lvF p O).map (·.1) = O.filter (·.live)
  | _, [] => rfl
  | p, a :: r => by
    have ih := lvF_ob (p + (fl a).length) r
    rw [lvF_cons]
    by_cases h : a.live = true
    · rw [if_pos h, List.map_cons, ih, List.filter_cons_of_pos (by exact h)]
    · rw [if_neg h, ih, List.filter_cons_of_neg (by exact h)]
theorem off_cons (a : Ob) (r : List Ob) (i : Nat) : off (a :: r) (i + 1) = (fl a).length + off r i := by
  unfold off
  rw [List.take_succ_cons, flat_cons, List.length_append]
theorem lvF_mem : ∀ (p : Nat) (O : List Ob) (z : Ob × Nat), z ∈ lvF p O ↔ ∃ i : Nat, O[i]? = some z.1 ∧ z.1.live = true ∧ z.2 = p + off O i
  | p, [], z => by simp [lvF]
  | p, a :: r, z => by
    have ih := lvF_mem (p + (fl a).length) r z
    have tail : (∃ i : Nat, r[i]? = some z.1 ∧ z.1.live = true ∧ z.2 = p + (fl a).length + off r i) ↔ ∃ i : Nat, (a :: r)[i + 1]? = some z.1 ∧ z.1.live = true ∧ z.2 = p + off (a :: r) (i + 1) := by
      constructor
      · rintro ⟨i, h1, h2, h3⟩
        exact ⟨i, h1, h2, by rw [off_cons, h3]; omega⟩
      · rintro ⟨i, h1, h2, h3⟩
        exact ⟨i, h1, h2, by rw [h3, off_cons]; omega⟩
    have all : (∃ i : Nat, (a :: r)[i]? = some z.1 ∧ z.1.live = true ∧ z.2 = p + off (a :: r) i) ↔ (a = z.1 ∧ z.1.live = true ∧ z.2 = p) ∨ ∃ i : Nat, (a :: r)[i + 1]? = some z.1 ∧ z.1.live = true ∧ z.2 = p + off (a :: r) (i + 1) := by
      constructor
      · rintro ⟨i, h1, h2, h3⟩
        cases i with
        | zero => exact Or.inl ⟨Option.some.inj h1, h2, by rw [h3]; rfl⟩
        | succ i => exact Or.inr ⟨i, h1, h2, h3⟩
      · rintro (⟨h1, h2, h3⟩ | ⟨i, h1, h2, h3⟩)
        · exact ⟨0, congrArg some h1, h2, by rw [h3]; rfl⟩
        · exact ⟨i + 1, h1, h2, h3⟩
    rw [all, ← tail, ← ih]
    rw [lvF_cons]
    by_cases h : a.live = true
    · rw [if_pos h, List.mem_cons]
      constructor
      · rintro (e | e)
        · subst e; exact Or.inl ⟨rfl, h, rfl⟩
        · exact Or.inr e
      · rintro (⟨h1, h2, h3⟩ | e)
        · left
          obtain ⟨z1, z2⟩ := z
          have h1 : a = z1 := h1
          have h3 : z2 = p := h3
          rw [h1, h3]
        · exact Or.inr e
    · rw [if_neg h]
      constructor
      · exact Or.inr
      · rintro (⟨h1, h2, h3⟩ | e)
        · rw [h1] at h; exact absurd h2 h
        · exact e
theorem lvF_lt : ∀ (p : Nat) (O : List Ob), (lvF p O).Pairwise (fun x y => x.2 < y.2) ∧ ∀ z ∈ lvF p O, p ≤ z.2
  | _, [] => ⟨List.Pairwise.nil, fun z h => by simp [lvF] at h⟩
  | p, a :: r => by
    obtain ⟨h1, h2⟩ := lvF_lt (p + (fl a).length) r
    have hl := fl_len a
    rw [lvF_cons]
    by_cases h : a.live = true
    · rw [if_pos h]
      refine ⟨List.pairwise_cons.mpr ⟨fun z hz => ?_, h1⟩, fun z hz => ?_⟩
      · have := h2 z hz
        show p < z.2
        omega
      · rcases List.mem_cons.mp hz with e | hz
        · rw [e]; exact Nat.le_refl _
        · have := h2 z hz
          omega
    · rw [if_neg h]
      exact ⟨h1, fun z hz => by have := h2 z hz; omega⟩
theorem lvF_app : ∀ (p : Nat) (A B : List Ob), lvF p (A ++ B) = lvF p A ++ lvF (p + (flat A).length) B
  | p, [], B => by simp [lvF, flat]
  | p, a :: r, B => by
    have ih := lvF_app (p + (fl a).length) r B
    rw [List.cons_append, lvF_cons, lvF_cons, ih, flat_cons, List.length_append, Nat.add_assoc]
    split <;> rfl
def tbl (O : List Ob) : List (Int × Int) := (lvF 0 O).map fun z => (z.1.num, (z.2 : Int))
theorem tbl_fst (O : List Ob) : (tbl O).map (·.1) = (O.filter (·.live)).map (·.num) := by
  unfold tbl
  rw [← lvF_ob 0 O, List.map_map, List.map_map]; rfl
theorem tbl_mem (O : List Ob) (n p : Int) : (n, p) ∈ tbl O ↔ ∃ (i : Nat) (o : Ob), O[i]? = some o ∧ o.live = true ∧ n = o.num ∧ p = (off O i : Nat) := by
  unfold tbl
  constructor
  · intro h
    obtain ⟨z, hz, e⟩ := List.mem_map.mp h
    obtain ⟨i, h1, h2, h3⟩ := (lvF_mem 0 O z).mp hz
    cases e
    exact ⟨i, z.1, h1, h2, rfl, by rw [h3, Nat.zero_add]⟩
  · rintro ⟨i, o, h1, h2, rfl, rfl⟩
    exact List.mem_map.mpr ⟨(o, off O i), (lvF_mem 0 O _).mpr ⟨i, h1, h2, by rw [Nat.zero_add]⟩, rfl⟩
theorem tbl_lt (O : List Ob) : (tbl O).Pairwise (fun x y => x.2 < y.2) := by
  unfold tbl
  exact List.pairwise_map.mpr ((lvF_lt 0 O).1.imp fun h => by show ((_ : Nat) : Int) < ((_ : Nat) : Int); omega)
theorem tbl_snoc (A : List Ob) (a : Ob) (h : a.live = true) : tbl (A ++ [a]) = tbl A ++ [(a.num, ((flat A).length : Int))] := by
  unfold tbl
  rw [lvF_app, List.map_append]
  congr 1
  show (lvF (0 + (flat A).length) [a]).map _ = _
  rw [lvF_cons, if_pos h, Nat.zero_add]
  rfl
theorem pw_inj {l : List (Int × Int)} (h : l.Pairwise (fun x y => x.2 < y.2)) {a b : Int × Int} (ha : a ∈ l) (hb : b ∈ l) (e : a.2 = b.2) : a = b := by
  induction l with
  | nil => simp at ha
  | cons x r ih =>
    obtain ⟨h1, h2⟩ := List.pairwise_cons.mp h
    rcases List.mem_cons.mp ha with ea | ea <;> rcases List.mem_cons.mp hb with eb | eb
    · rw [ea, eb]
    · have := h1 b eb; rw [← ea] at this; omega
    · have := h1 a ea; rw [← eb] at this; omega
    · exact ih h2 ea eb
theorem by_place {O : List Ob} {ys : List (Int × Int)} (h : ys.Perm (tbl O)) (hp : ys.Pairwise (fun x y => x.2 ≤ y.2)) : ys = tbl O :=
  List.Perm.eq_of_pairwise (le := fun x y : Int × Int => x.2 ≤ y.2) (fun a b ha hb h1 h2 => pw_inj (tbl_lt O) (h.mem_iff.mp ha) hb (by omega)) hp ((tbl_lt O).imp fun h => by omega) h
theorem mem_valV {κ : Type} [DecidableEq κ] {kvs : List (κ × V)} {k : κ} {v : V} (nd : (kvs.map (·.1)).Nodup) (h : (k, v) ∈ kvs) : valV kvs k = some v := by
  induction kvs with
  | nil => simp at h
  | cons p r ih =>
    obtain ⟨h1, h2⟩ := List.nodup_cons.mp nd
    rcases List.mem_cons.mp h with e | e
    · subst e; exact valV_pos rfl
    · rw [valV_neg (fun z => h1 (by show p.1 ∈ _; rw [z]; exact List.mem_map.mpr ⟨_, e, rfl⟩))]
      exact ih h2 e
theorem pD_of {l : List (Key × V)} (h : ∀ p ∈ l, ∃ n i : Int, p = (.inl n, .int i)) : ∃ ps, l = pD ps := by
  induction l with
  | nil => exact ⟨[], rfl⟩
  | cons a r ih =>
    obtain ⟨n, i, e⟩ := h a List.mem_cons_self
    obtain ⟨ps, e2⟩ := ih fun p hp => h p (List.mem_cons_of_mem _ hp)
    exact ⟨(n, i) :: ps, by rw [e, e2]; rfl⟩
theorem pD_keys (ps : List (Int × Int)) : (pD ps).map (·.1) = (ps.map (·.1)).map Sum.inl := by unfold pD; rw [List.map_map, List.map_map]; rfl
theorem pD_nd {ps : List (Int × Int)} : ((pD ps).map (·.1)).Nodup ↔ (ps.map (·.1)).Nodup := by
  rw [pD_keys]
  constructor
  · exact fun h => (List.pairwise_map.mp h).imp fun h e => h (by rw [e])
  · exact fun h => List.pairwise_map.mpr (h.imp fun h e => h (Sum.inl.inj e))
theorem pD_iff {ps : List (Int × Int)} (nd : (ps.map (·.1)).Nodup) (k : Key) (v : V) : valV (pD ps) k = some v ↔ ∃ n i : Int, (n, i) ∈ ps ∧ k = .inl n ∧ v = .int i := by
  constructor
  · intro h
    obtain ⟨p, hp, e⟩ := List.mem_map.mp (show (k, v) ∈ ps.map _ from val_mem h)
    cases e
    exact ⟨p.1, p.2, hp, rfl, rfl⟩
  · rintro ⟨n, i, h, rfl, rfl⟩
    exact pD_val nd h
theorem Good.pairs {O : List Ob} {kvs : List (Key × V)} {least : Int} (G : Good O kvs least) : ∃ ps, kvs = pD ps ∧ (ps.map (·.1)).Nodup ∧ ps.Perm (tbl O) := by
  obtain ⟨ps, rfl⟩ := pD_of (l := kvs) fun p hp => by
    obtain ⟨i, o, h1, h2, h3, h4⟩ := (G.val p.1 p.2).mp (mem_valV G.nd hp)
    exact ⟨o.num, (off O i : Nat), by rw [← h3, ← h4]⟩
  have nd := pD_nd.mp G.nd
  refine ⟨ps, rfl, nd, ?_⟩
  have n1 : ps.Nodup := (List.pairwise_map.mp nd).imp fun h e => h (by rw [e])
  have n2 : (tbl O).Nodup := (tbl_lt O).imp fun h e => by rw [e] at h; omega
  refine (List.perm_ext_iff_of_nodup n1 n2).mpr fun z => ?_
  obtain ⟨n, p⟩ := z
  rw [tbl_mem]
  constructor
  · intro h
    obtain ⟨i, o, h1, h2, h3, h4⟩ := (G.val _ _).mp (pD_val nd h)
    exact ⟨i, o, h1, h2, Sum.inl.inj h3, V.int.inj h4⟩
  · rintro ⟨i, o, h1, h2, rfl, rfl⟩
    obtain ⟨n, i, h, e1, e2⟩ := (pD_iff nd _ _).mp (G.at h1 h2)
    cases e1
    cases e2
    exact h
theorem Good.nums {O : List Ob} {kvs : List (Key × V)} {least : Int} (G : Good O kvs least) : ((O.filter (·.live)).map (·.num)).Nodup := by
  obtain ⟨ms, m1, m2⟩ := G.ints
  have ndm : ms.Nodup := by
    have := G.nd
    rw [m1] at this
    exact (List.pairwise_map.mp this).imp fun h e => h (by rw [e])
  exact m2.nodup_iff.mp ndm
theorem all_live {O : List Ob} : ∀ o ∈ O.filter (·.live), o.live = true := fun o ho => (List.mem_filter.mp ho).2
theorem Good.close {O : List Ob} {kvs : List (Key × V)} {least : Int} (G : Good O kvs least) : Good (O.filter (·.live)) (pD (tbl (O.filter (·.live)))) least := by
  have e1 : (tbl (O.filter (·.live))).map (·.1) = (O.filter (·.live)).map (·.num) := by rw [tbl_fst, List.filter_filter]; simp
  have nd : ((tbl (O.filter (·.live))).map (·.1)).Nodup := by rw [e1]; exact G.nums
  refine ⟨fun k v => ?_, pD_nd.mpr nd, fun i j o p hi hj _ _ e => ?_, G.seen.1, fun n h0 h1 => ?_⟩
  · rw [pD_iff nd]
    constructor
    · rintro ⟨n, i, h, rfl, rfl⟩
      obtain ⟨j, o, h1, h2, rfl, rfl⟩ := (tbl_mem _ _ _).mp h
      exact ⟨j, o, h1, h2, rfl, rfl⟩
    · rintro ⟨j, o, h1, h2, rfl, rfl⟩
      exact ⟨_, _, (tbl_mem _ _ _).mpr ⟨j, o, h1, h2, rfl, rfl⟩, rfl, rfl⟩
  · have hl := (List.getElem?_eq_some_iff.mp hi).1
    refine (List.getElem?_inj (l := (O.filter (·.live)).map (·.num)) (by rw [List.length_map]; exact hl) G.nums).mp ?_
    rw [List.getElem?_map, List.getElem?_map, hi, hj, Option.map_some, Option.map_some, e]
  · have := G.seen.2 n h0 h1
    obtain ⟨i, o, h2, h3, rfl⟩ := (G.iff n).mp this
    have hm : o ∈ O.filter (·.live) := List.mem_filter.mpr ⟨List.mem_of_getElem? h2, h3⟩
    obtain ⟨j, hj⟩ := List.getElem?_of_mem hm
    rw [(pD_iff nd _ _).mpr ⟨o.num, _, (tbl_mem _ _ _).mpr ⟨j, o, hj, h3, rfl, rfl⟩, rfl, rfl⟩]
    rfl
/-- one is dropped -/
theorem kill_filter {O : List Ob} {kvs : List (Key × V)} {least : Int} (G : Good O kvs least) {i : Nat} {o : Ob} (h : O[i]? = some o) (ho : o.live = true) : (O.set i { o with live := false }).filter (·.live) = (O.filter (·.live)).filter fun p => !decide (p.num = o.num) := by
  have hi := (List.getElem?_eq_some_iff.mp h).1
  have e : O = O.take i ++ o :: O.drop (i + 1) := split_at h
  rw [List.set_eq_take_append_cons_drop, if_pos hi]
  have key : ∀ j p, O[j]? = some p → j ≠ i → p.live = true → ¬ p.num = o.num := fun j p hj ne lp en => ne (G.un j i p o hj h lp ho en)
  have k1 : (O.take i).filter (·.live) = ((O.take i).filter (·.live)).filter fun p => !decide (p.num = o.num) := by
    refine (List.filter_eq_self.mpr fun p hp => ?_).symm
    obtain ⟨h1, h2⟩ := List.mem_filter.mp hp
    obtain ⟨j, hj⟩ := List.getElem?_of_mem h1
    rw [List.getElem?_take] at hj
    split at hj
    · simp [key j p hj (by omega) h2]
    · cases hj
  have k2 : (O.drop (i + 1)).filter (·.live) = ((O.drop (i + 1)).filter (·.live)).filter fun p => !decide (p.num = o.num) := by
    refine (List.filter_eq_self.mpr fun p hp => ?_).symm
    obtain ⟨h1, h2⟩ := List.mem_filter.mp hp
    obtain ⟨j, hj⟩ := List.getElem?_of_mem h1
    rw [List.getElem?_drop] at hj
    simp [key _ p hj (by omega) h2]
  conv => rhs; rw [e]
  rw [List.filter_append, List.filter_append, List.filter_append, List.filter_cons_of_neg (by simp), List.filter_cons_of_pos (by exact ho), List.filter_cons_of_neg (by simp), ← k1, ← k2]



end LX
namespace LX
open PySem PySem.Spec PyProof.Rows L2 NdefX
open LamX in
/-- every old thing outside of F is kept, but for tables -/
def FrN (F : List Addr) (H H' : Hp) : Prop := ∀ b o, H b = some o → b ∉ F → (∀ ps, o ≠ .tbl ps) → H' b = some o
theorem Fr.n {F : List Addr} {H H' : Hp} (f : Fr F H H') : FrN F H H' := fun b o e n _ => f b o e n
theorem FrN.trans {F : List Addr} {H H1 H2 : Hp} (a : FrN F H H1) (b : FrN F H1 H2) : FrN F H H2 := fun c o e n t => b c o (a c o e n t) n t
theorem FrN.mono {F G : List Addr} {H H' : Hp} (a : FrN F H H') (h : ∀ b, b ∈ F → b ∈ G) : FrN G H H' := fun c o e n t => a c o e (fun m => n (h c m)) t
theorem FrN.lst {F : List Addr} {H H' : Hp} (a : FrN F H H') {b : Addr} {xs : List V} (e : H b = some (.lst xs)) (n : b ∉ F) : H' b = some (.lst xs) := a b _ e n (by intro ps z; cases z)
theorem tab_out {F : List Addr} {H H' : Hp} {P : Addr} {q : Str} (t : LamX.TabS H P q) (f : Fr F H H') (hF : ∀ b ∈ F, ∃ o, H b = some o ∧ (∀ ps, o ≠ .tbl ps) ∧ (∀ φ, o ≠ .ext φ)) : LamX.TabS H' P q := by
  obtain ⟨ps, h1, h2, h3⟩ := t
  refine ⟨ps, f _ _ h1 fun hm => ?_, h2, fun pos cv hc => ?_⟩
  · obtain ⟨o, e, n, _⟩ := hF _ hm
    rw [h1] at e
    exact n ps (Option.some.inj e).symm
  · obtain ⟨c, e1, e2⟩ := h3 pos cv hc
    refine ⟨c, e1, f _ _ e2 fun hm => ?_⟩
    obtain ⟨o, e, _, n⟩ := hF _ hm
    rw [e2] at e
    exact n _ (Option.some.inj e).symm
theorem StoreAt.keepN {H H' : Hp} {C st dx wl pl : Addr} {room entries least : Int} {ws : List Int} {kvs : List (Key × V)} (S : StoreAt H C st dx wl pl room entries least ws kvs) (f : LamX.ExtN H H') : StoreAt H' C st dx wl pl room entries least ws kvs :=
  ⟨f _ _ S.st (by intro ps z; cases z), f _ _ S.wl (by intro ps z; cases z), f _ _ S.pl (by intro ps z; cases z)⟩
section
variable {P : Program} {w : World} {K : PySem.W.Frag} {mg : Str → Option Value} {base : Heap}
def sp_used : Addr → Sp := fun C vs H Q _ => ∃ st dx wl pl room entries least ws kvs, vs = [.ref st] ∧ StoreAt H C st dx wl pl room entries least ws kvs ∧ Q (.int (ws.length : Int)) H
theorem ok_Store_used (W : WT P K mg base) : FnOk P w K mg base CX0 1 W.f_Store_used W.fd_Store_used ["self"] (sp_used W.c_Store) := by
  refine W.F_Store_used.ok sc_Store_used (fun vs H Q E h => ?_) (fun cdv A outer s H vs Q E hr h => ?_)
  · obtain ⟨st, dx, wl, pl, room, entries, least, ws, kvs, rfl, _⟩ := h
    rfl
  · obtain ⟨st, dx, wl, pl, room, entries, least, ws, kvs, rfl, S, k⟩ := h
    have hu1 := hu_of hr
    refine ⟨_, (pss_one (ps_ret (pe_callB call_lenU (by rfl) W.n_len bb_len (pa_cons (pe_fld (pv 0) rfl) pa_nil)))), ?_⟩
    refine ⟨_, rfl, st, _, dx, _, _, rfl, S.st, W.C_Store, W.na_Store_words, rfl, ?_⟩
    refine Or.inl ⟨_, Or.inl (SqL.of S.wl), ?_⟩
    rw [List.length_map]
    exact k
theorem seg_fl {O : List Ob} {i : Nat} {o : Ob} (h : O[i]? = some o) : seg (flat O) (off O i) (3 + o.sl.length) = fl o := by
  unfold seg
  rw [flat_split h]
  unfold off
  rw [List.drop_left, ← fl_len, List.take_left]
def sp_close (C PT : Addr) : Sp := fun vs H Q _ => ∃ st dx wl pl room entries least kvs O, vs = [.ref st] ∧ StoreAt H C st dx wl pl room entries least (flat O) kvs ∧ Good O kvs least ∧ (flat O).length ≤ 100000 ∧ O.length ≤ 1000 ∧ LamX.TabS H PT qLam ∧
  ∀ H' wl' pl', StoreAt H' C st dx wl' pl' room entries least (flat (O.filter (·.live))) (pD (tbl (O.filter (·.live)))) → LamX.TabS H' PT qLam → FrN [st] H H' → H wl' = none → H pl' = none → Q .non H'
theorem ok_Store_close_up (W : WT P K mg base) : FnOk P w K mg base CX0 1 W.f_Store_close_up W.fd_Store_close_up ["self"] (sp_close W.c_Store W.PT_Store_close_up) := by
  refine W.G_Store_close_up.ok sc_Store_close_up (fun vs H Q E h => ?_) (fun A outer s H vs Q E hr h => ?_)
  · obtain ⟨st, dx, wl, pl, room, entries, least, kvs, O, rfl, _⟩ := h
    rfl
  · obtain ⟨st, dx, wl, pl, room, entries, least, kvs, O, rfl, S, G, hfl, hO, hT, k⟩ := h
    have hu1 := hu_of hr
    have hu64 := hu64_of hr
    refine ⟨_, (pss_cons (ps_set (i := 1) sc_Store_close_up.nd rfl (by first | exact Or.inl rfl | exact Or.inr rfl) (pe_lst pa_nil))
      (pss_cons (ps_set (i := 2) sc_Store_close_up.nd rfl (by first | exact Or.inl rfl | exact Or.inr rfl) pe_dnewK)
      (pss_cons (ps_set (i := 3) sc_Store_close_up.nd rfl (by first | exact Or.inl rfl | exact Or.inr rfl) (pe_fld (pv 0) rfl))
      (pss_cons (ps_for PassesOwn.never rfl (pi_list (pe_sortKeyLam (T := [(W.PT_Store_close_up, qLam)]) (c := W.cA_Store_close_up) (P := W.PT_Store_close_up) (i := 3) (x := "old") (y := "number") rfl hr rfl W.n_sorted rfl rfl W.TB rfl (List.mem_singleton.mpr rfl) (fun p hp _ => by cases List.mem_singleton.mp hp; rfl) rfl rfl rfl rfl (by decide +kernel) rfl rfl (by intro z hz e; rcases List.mem_cons.mp hz with h | h; (subst h; cases e); (cases List.mem_singleton.mp h; exact Or.inl rfl)) (fun _ _ _ _ _ _ => rfl) (by decide) (by decide) (by decide))) (pg_name (i := 4) sc_Store_close_up.nd rfl (by first | exact Or.inl rfl | exact Or.inr rfl)) (pss_cons (ps_set (i := 5) sc_Store_close_up.nd rfl (by first | exact Or.inl rfl | exact Or.inr rfl) (pe_ix (ix_U hu1) (pv 3) (pv 4) (fun _ _ => rfl)))
      (pss_cons (ps_dput hu1 (pv 2) (pv 4) (pe_callB call_lenU (by rfl) W.n_len bb_len (pa_cons (pv 1) pa_nil)) rfl)
      (pss_one (ps_expr (pe_bm PySem.F.plainAttrs_list PySem.F.slot_list_extend PySem.F.type_list_extend mt_extend (pv 1) (pa_cons (pe_slice sl_U (pe_fld (pv 0) rfl) (po_some (pv 5)) (po_some (pe_op op_addU (pe_op op_addU (pv 5) (pe_gi rfl W.g_HEADER)) (pe_ix (ix_U hu1) (pe_fld (pv 0) rfl) (pe_op op_addU (pv 5) pe_int) (fun _ _ => rfl))))) pa_nil)))))))
      (pss_cons (ps_fld (pv 0) (pv 1) rfl)
      (pss_one (ps_fld (pv 0) (pv 2) rfl))))))), ?_⟩
    refine ⟨(by show 0 ≤ sizeLine; decide), fun wn hwn => ?_⟩
    have f1 : Fr [] H (upd H wn (.lst [])) := Fr.new hwn
    have hw1 : upd H wn (.lst []) wn = some (.lst []) := upd_same
    generalize upd H wn (.lst []) = H1 at f1 hw1
    refine fun pn hpn => ?_
    have f2 : Fr [] H1 (upd H1 pn (.dK [])) := Fr.new hpn
    have hp2 : upd H1 pn (.dK []) pn = some (.dK []) := upd_same
    have hw2 := f2 _ _ hw1 (by simp)
    have nwp : wn ≠ pn := ne_of_none hw1 hpn
    have hpn0 : H pn = none := by
      cases e : H pn with
      | none => rfl
      | some o => rw [f1 _ _ e (by simp)] at hpn; cases hpn
    have f2 := f1.trans f2
    show gName 2 (V.ref pn) _ (upd H1 pn (.dK [])) _
    generalize upd H1 pn (.dK []) = H2 at f2 hp2 hw2
    have S2 := S.keep f2 (by simp)
    refine ⟨_, rfl, st, _, dx, _, _, rfl, S2.st, W.C_Store, W.na_Store__places, rfl, ?_⟩
    obtain ⟨ps, ek, nd, pm⟩ := G.pairs
    subst ek
    have T2 : LamX.TabS H2 W.PT_Store_close_up qLam := hT.ext fun b o e => f2 b o e (by simp)
    refine ⟨pl, ps, rfl, S2.pl, nd, (fun p hp => by cases List.mem_singleton.mp hp; exact T2), fun H3 eN T3 ys q py py2 hq => ?_⟩
    have T3 := T3 _ (List.mem_singleton.mpr rfl)
    have ey : ys = tbl O := by_place (py.trans pm) py2
    subst ey
    have S3 := S2.keepN eN
    have hw3 := eN _ _ hw2 (by intro ps z; cases z)
    have hp3 := eN _ _ hp2 (by intro ps z; cases z)
    have f3 : FrN [] H H3 := fun b o e n t => eN _ _ (f2 b o e n) t
    have f4 : Fr [] H3 (upd H3 q (.lst (((tbl O).map (·.1)).map V.int))) := Fr.new hq
    have hq4 : upd H3 q (.lst (((tbl O).map (·.1)).map V.int)) q = some (.lst (((tbl O).map (·.1)).map V.int)) := upd_same
    have T4 := T3.ext fun b o e => f4 b o e (by simp)
    have S4 := S3.keep f4 (by simp)
    have hw4 := f4 _ _ hw3 (by simp)
    have hp4 := f4 _ _ hp3 (by simp)
    have nqw : q ≠ wn := (ne_of_none hw3 hq).symm
    have f4 := f3.trans f4.n
    generalize upd H3 q (.lst (((tbl O).map (·.1)).map V.int)) = H4 at hq4 T4 S4 hw4 hp4 f4
    have lenT : (tbl O).length = (O.filter (·.live)).length := by
      have := congrArg List.length (tbl_fst O)
      rw [List.length_map, List.length_map] at this
      exact this
    have lenL := List.length_filter_le (fun o : Ob => o.live) O
    have wlw : wl ≠ wn := ne_of_none S.wl hwn
    have plp : pl ≠ pn := ne_of_none S.pl hpn0
    have stw : st ≠ wn := ne_of_none S.st hwn
    have stp : st ≠ pn := ne_of_none S.st hpn0
    refine ⟨q, rfl, ⟨_, SqL.of hq4⟩, ?_⟩
    refine for_list (K := K) (a := q) (xs := ((tbl O).map (·.1)).map V.int) (fun j σ H' => ∃ (v4 v5 : Option V), σ = [some (.ref st), some (.ref wn), some (.ref pn), some (.ref pl), v4, v5] ∧ H' q = some (.lst (((tbl O).map (·.1)).map V.int)) ∧ LamX.TabS H' W.PT_Store_close_up qLam ∧ StoreAt H' W.c_Store st dx wl pl room entries least (flat O) (pD ps) ∧ H' wn = some (.lst ((flat ((O.filter (·.live)).take j)).map V.int)) ∧ H' pn = some (.dK (pD (tbl ((O.filter (·.live)).take j)))) ∧ FrN [] H H')
      ⟨_, _, rfl, hq4, T4, S4, hw4, hp4, f4⟩ (fun j σ H5 _ hI => ?_) (fun j x σ H5 hx hI => ?_) (fun σ H5 hI => ?_)
    · obtain ⟨v4, v5, rfl, a1, _⟩ := hI
      exact SqL.of a1
    · obtain ⟨v4, v5, rfl, a1, a2, a3, a4, a5, a6⟩ := hI
      rw [List.map_map, List.getElem?_map] at hx
      obtain ⟨z, hz, rfl⟩ := Option.map_eq_some_iff.mp hx
      obtain ⟨n, pp⟩ := z
      obtain ⟨i, o, ho, hl, rfl, rfl⟩ := (tbl_mem O n pp).mp (List.mem_of_getElem? hz)
      have hoj : (O.filter (·.live))[j]? = some o := by
        have e1 : ((tbl O).map (·.1))[j]? = some o.num := by rw [List.getElem?_map, hz]; rfl
        rw [tbl_fst, List.getElem?_map] at e1
        obtain ⟨o2, h1, h2⟩ := Option.map_eq_some_iff.mp e1
        have m2 := List.mem_filter.mp (List.mem_of_getElem? h1)
        obtain ⟨i2, hi2⟩ := List.getElem?_of_mem m2.1
        have := G.un i2 i o2 o hi2 ho m2.2 hl h2
        subst this
        rw [ho] at hi2
        rw [h1, hi2]
      have hjlt : j < (O.filter (·.live)).length := (List.getElem?_eq_some_iff.mp hoj).1
      have htk : (O.filter (·.live)).take (j + 1) = (O.filter (·.live)).take j ++ [o] := by rw [List.take_succ, hoj]; rfl
      have hlen2 : (flat ((O.filter (·.live)).take j)).length + (fl o).length ≤ 200000 := by
        have h1 := off_lt hoj
        unfold off at h1
        have h2 : (flat (O.filter (·.live))).length ≤ (flat O).length := by
          have : ∀ l : List Ob, (flat (l.filter (·.live))).length ≤ (flat l).length := by
            intro l
            induction l with
            | nil => exact Nat.le_refl _
            | cons a r ih =>
              by_cases q : a.live = true
              · rw [List.filter_cons_of_pos (by exact q), flat_cons, flat_cons, List.length_append, List.length_append]; omega
              · rw [List.filter_cons_of_neg (by exact q), flat_cons, List.length_append]; omega
          exact this O
        rw [fl_len]
        omega
      -- place = old[number]
      refine ⟨_, rfl, _, rfl, Or.inr ⟨.int (off O i : Nat), by rw [← G.at ho hl]; exact DGet.k (k := Sum.inl o.num) a3.pl, ?_⟩⟩
      -- places[number] = len(words)
      refine ⟨_, rfl, Or.inl ⟨_, Or.inl (SqL.of a4), ?_⟩⟩
      rw [List.length_map]
      refine ⟨_, rfl, _, rfl, pn, _, rfl, DPut.k (k := Sum.inl o.num) a5 (by
        unfold pD tbl
        have := congrArg List.length (lvF_ob 0 ((O.filter (·.live)).take j))
        rw [List.length_map] at this
        have h2 := List.length_filter_le (fun o : Ob => o.live) ((O.filter (·.live)).take j)
        rw [List.length_take] at h2
        rw [List.length_map, List.length_map, sizeLine_eq]
        omega), ?_⟩
      have hnew : valV (pD (tbl ((O.filter (·.live)).take j))) (.inl o.num) = none := by
        cases e : valV (pD (tbl ((O.filter (·.live)).take j))) (.inl o.num) with
        | none => rfl
        | some v =>
          exfalso
          obtain ⟨m, i2, h1, h2, h3⟩ : ∃ n i : Int, (n, i) ∈ tbl ((O.filter (·.live)).take j) ∧ (Sum.inl o.num : Key) = .inl n ∧ v = .int i := by
            obtain ⟨p, hp, e2⟩ := List.mem_map.mp (show ((Sum.inl o.num : Key), v) ∈ (tbl ((O.filter (·.live)).take j)).map _ from val_mem e)
            obtain ⟨e3, e4⟩ := Prod.mk.inj e2
            exact ⟨p.1, p.2, hp, e3.symm, e4.symm⟩
          cases h2
          obtain ⟨i3, o3, h4, h5, h6, _⟩ := (tbl_mem _ _ _).mp h1
          rw [List.getElem?_take] at h4
          split at h4
          · rename_i hlt
            have := (List.getElem?_inj (l := (O.filter (·.live)).map (·.num)) (i := i3) (j := j) (by rw [List.length_map]; omega) G.nums).mp (by rw [List.getElem?_map, List.getElem?_map, h4, hoj, Option.map_some, Option.map_some, h6])
            omega
          · cases h4
      have eput : putK (pD (tbl ((O.filter (·.live)).take j))) (.inl o.num) (.int ((flat ((O.filter (·.live)).take j)).length : Int)) = pD (tbl ((O.filter (·.live)).take (j + 1))) := by
        rw [putK_new _ hnew, htk, tbl_snoc _ _ hl]
        unfold pD
        rw [List.map_append]
        rfl
      rw [eput]
      have npw := nwp.symm
      have npl : pl ≠ pn := plp
      have b1 : upd H5 pn (.dK (pD (tbl ((O.filter (·.live)).take (j + 1))))) pn = some (.dK (pD (tbl ((O.filter (·.live)).take (j + 1))))) := upd_same
      have fb : Fr [pn] H5 (upd H5 pn (.dK (pD (tbl ((O.filter (·.live)).take (j + 1)))))) := Fr.at (by simp)
      have nqp : q ≠ pn := ne_of a1 a5 (by intro z; cases z)
      have c1 := fb _ _ a1 (by simpa using nqp)
      have c2 := tab_out a2 fb (fun b hb => by
        have e : b = pn := by simpa using hb
        rw [e]
        exact ⟨_, a5, (by intro ps z; cases z), (by intro ps z; cases z)⟩)
      have nwlp : wl ≠ pn := ne_of a3.wl a5 (by intro z; cases z)
      have c3 := a3.keep fb (fun b hb h => by
        have h : b = pn := by simpa using h
        simp only [List.mem_cons, List.not_mem_nil, or_false] at hb
        rcases hb with e | e | e
        · exact stp (e.symm.trans h)
        · exact nwlp (e.symm.trans h)
        · exact plp (e.symm.trans h))
      have c4 := fb _ _ a4 (by simpa using nwp)
      have c6 : FrN [] H (upd H5 pn (.dK (pD (tbl ((O.filter (·.live)).take (j + 1)))))) := fun b o e n t => by rw [upd_ne (ne_of_none e hpn0)]; exact a6 b o e n t
      generalize upd H5 pn (.dK (pD (tbl ((O.filter (·.live)).take (j + 1))))) = H6 at b1 c1 c2 c3 c4 c6
      -- words.extend(..)
      refine ⟨_, rfl, Or.inl ⟨rfl, _, SqL.of c4⟩, ?_⟩
      refine ⟨_, rfl, st, _, dx, _, _, rfl, c3.st, W.C_Store, W.na_Store_words, rfl, ?_⟩
      refine ⟨_, rfl, _, rfl, ?_⟩
      refine ⟨_, rfl, ?_⟩
      refine ⟨_, rfl, st, _, dx, _, _, rfl, c3.st, W.C_Store, W.na_Store_words, rfl, ?_⟩
      refine ⟨_, rfl, ?_⟩
      refine Or.inl ⟨_, _, _, rfl, Or.inl (SqL.of c3.wl), atI_nat (j := off O i + 1) (int_at (flat_size ho)), ?_⟩
      refine ⟨_, rfl, ?_⟩
      refine Or.inl ⟨wl, _, rfl, SqL.of c3.wl, fun l hl1 => ?_⟩
      have ecut : cutV ((flat O).map V.int) (some ((off O i : Nat) : Int)) (some (((off O i : Nat) : Int) + 3 + (o.sl.length : Int))) = (fl o).map V.int := by
        have h := cut_seg (ws := flat O) (p := off O i) (n := 3 + o.sl.length) (by have := off_lt ho; omega)
        rw [seg_fl ho] at h
        rw [← h]
        congr 2
        omega
      rw [ecut]
      have nwl : wn ≠ l := ne_of_none c4 hl1
      have g7 : Fr [] H6 (upd H6 l (.lst ((fl o).map V.int))) := Fr.new hl1
      have hl7 : upd H6 l (.lst ((fl o).map V.int)) l = some (.lst ((fl o).map V.int)) := upd_same
      generalize upd H6 l (.lst ((fl o).map V.int)) = H7 at g7 hl7
      have c1 := g7 _ _ c1 (by simp)
      have c2 := c2.ext fun b o e => g7 b o e (by simp)
      have c3 := c3.keep g7 (by simp)
      have c4 := g7 _ _ c4 (by simp)
      have b1 := g7 _ _ b1 (by simp)
      have c6 := c6.trans g7.n
      refine ⟨wn, l, _, _, rfl, rfl, c4, hl7, by rw [List.length_map, List.length_map, sizeLine_eq]; omega, ?_⟩
      have ecat : (flat ((O.filter (·.live)).take j)).map V.int ++ (fl o).map V.int = (flat ((O.filter (·.live)).take (j + 1))).map V.int := by
        rw [htk, flat_app, ← List.map_append]
        congr 2
        show fl o = fl o ++ []
        rw [List.append_nil]
      rw [ecat]
      have fd : Fr [wn] H7 (upd H7 wn (.lst ((flat ((O.filter (·.live)).take (j + 1))).map V.int))) := Fr.at (by simp)
      refine ⟨_, _, rfl, fd _ _ c1 (by simpa using nqw), tab_out c2 fd (fun b hb => by
        have e : b = wn := by simpa using hb
        rw [e]
        exact ⟨_, c4, (by intro ps z; cases z), (by intro ps z; cases z)⟩), c3.keep fd (fun b hb h => by
        have h : b = wn := by simpa using h
        simp only [List.mem_cons, List.not_mem_nil, or_false] at hb
        rcases hb with e | e | e
        · exact stw (e.symm.trans h)
        · exact wlw (e.symm.trans h)
        · exact (ne_of c3.pl c4 (by intro z; cases z)) (e.symm.trans h)), upd_same, fd _ _ b1 (by simpa using nwp.symm), fun b o e n t => by rw [upd_ne (ne_of_none e hwn)]; exact c6 b o e n t⟩
    · obtain ⟨v4, v5, rfl, a1, a2, a3, a4, a5, a6⟩ := hI
      have elen : ((((tbl O).map (·.1)).map V.int)).length = (O.filter (·.live)).length := by rw [List.length_map, List.length_map, lenT]
      rw [elen, List.take_length] at a4 a5
      refine ⟨_, rfl, _, rfl, st, _, dx, _, rfl, a3.st, W.C_Store, W.na_Store_words, (by show 5 < 1000; decide), ?_⟩
      refine ⟨_, rfl, _, rfl, st, _, dx, _, rfl, upd_same, W.C_Store, W.na_Store__places, (by show 5 < 1000; decide), ?_⟩
      rw [upd_upd]
      have fd : Fr [st] H5 (upd H5 st (.ins W.c_Store dx (sF room entries wn pn least))) := Fr.at (by simp)
      refine k _ wn pn ⟨upd_same, fd _ _ a4 (by simpa using stw.symm), fd _ _ a5 (by simpa using stp.symm)⟩ (tab_out a2 fd (fun b hb => by
        have e : b = st := by simpa using hb
        rw [e]
        exact ⟨_, a3.st, (by intro ps z; cases z), (by intro ps z; cases z)⟩)) ((a6.mono (by simp)).trans fd.n) hwn hpn0
end

end LX
namespace LX
open PySem PySem.Spec PyProof.Rows L2 NdefX
theorem RowAt.snoc {H H' : Hp} {rl : Addr} {A : List (Addr × Addr)} {O : List Ob} {a : Addr × Addr} {o : Ob} (R : RowAt H rl A O) (hr : H' rl = some (.lst ((A ++ [a]).map fun a => V.ref a.1))) (hA : ∀ b ∈ A, ∀ c, c = b.1 ∨ c = b.2 → ∀ u, H c = some u → H' c = some u)
    (h1 : H' a.1 = some (.lst [.int o.num, .int o.kind, .ref a.2, .bl o.live])) (h2 : H' a.2 = some (.lst (o.sl.map V.int))) : RowAt H' rl (A ++ [a]) (O ++ [o]) := by
  refine ⟨hr, by rw [List.length_append, List.length_append, R.len]; rfl, fun i b p hb hp => ?_⟩
  rcases get_snoc hb with hb | ⟨e, rfl⟩
  · have hl : i < O.length := by rw [← R.len]; exact (List.getElem?_eq_some_iff.mp hb).1
    rw [List.getElem?_append_left hl] at hp
    obtain ⟨q1, q2⟩ := R.it i b p hb hp
    exact ⟨hA b (List.mem_of_getElem? hb) _ (Or.inl rfl) _ q1, hA b (List.mem_of_getElem? hb) _ (Or.inr rfl) _ q2⟩
  · rcases get_snoc hp with hp | ⟨e2, rfl⟩
    · have := (List.getElem?_eq_some_iff.mp hp).1
      rw [R.len] at e
      omega
    · exact ⟨h1, h2⟩
theorem Sep.snoc {A : List (Addr × Addr)} {rl : Addr} {X : List Addr} {a : Addr × Addr} (D : Sep A rl X) (n12 : a.1 ≠ a.2) (nr : a.1 ≠ rl ∧ a.2 ≠ rl) (nX : a.1 ∉ X ∧ a.2 ∉ X) (there : ∀ b ∈ A, b.1 ≠ a.1 ∧ b.1 ≠ a.2 ∧ b.2 ≠ a.1 ∧ b.2 ≠ a.2) : Sep (A ++ [a]) rl X := by
  refine ⟨fun i j b c hb hc h => ?_, fun b c hb hc => ?_, fun b hb => ?_, D.d4, fun b hb => ?_⟩
  · rcases get_snoc hb with hb' | ⟨e, e'⟩ <;> rcases get_snoc hc with hc' | ⟨e2, e2'⟩
    · exact D.d1 i j b c hb' hc' h
    · have t := there b (List.mem_of_getElem? hb')
      rw [e2'] at h
      rcases h with h | h
      · exact absurd h t.1
      · exact absurd h t.2.2.2
    · have t := there c (List.mem_of_getElem? hc')
      rw [e'] at h
      rcases h with h | h
      · exact absurd h.symm t.1
      · exact absurd h.symm t.2.2.2
    · omega
  · rcases List.mem_append.mp hb with hb' | hb' <;> rcases List.mem_append.mp hc with hc' | hc'
    · exact D.d2 b c hb' hc'
    · have e : c = a := by simpa using hc'
      rw [e]
      exact (there b hb').2.1
    · have e : b = a := by simpa using hb'
      rw [e]
      exact ((there c hc').2.2.1).symm
    · have e1 : b = a := by simpa using hb'
      have e2 : c = a := by simpa using hc'
      rw [e1, e2]
      exact n12
  · rcases List.mem_append.mp hb with hb | hb
    · exact D.d3 b hb
    · have e1 : b = a := by simpa using hb
      rw [e1]
      exact nr
  · rcases List.mem_append.mp hb with hb | hb
    · exact D.d5 b hb
    · have e1 : b = a := by simpa using hb
      rw [e1]
      exact nX
theorem RowAt.has {H : Hp} {rl : Addr} {A : List (Addr × Addr)} {O : List Ob} (R : RowAt H rl A O) {a : Addr × Addr} (h : a ∈ A) : (∃ xs, H a.1 = some (.lst xs)) ∧ ∃ xs, H a.2 = some (.lst xs) := by
  obtain ⟨i, hi⟩ := List.getElem?_of_mem h
  have hl : i < O.length := by rw [← R.len]; exact (List.getElem?_eq_some_iff.mp hi).1
  obtain ⟨q1, q2⟩ := R.it i a _ hi (List.getElem?_eq_getElem hl)
  exact ⟨⟨_, q1⟩, ⟨_, q2⟩⟩
section
variable {P : Program} {w : World} {K : PySem.W.Frag} {mg : Str → Option Value} {base : Heap}
theorem okH__law_is (W : WT P K mg base) : FnHP P w K mg base CX0 1 W.f__law_is W.fd__law_is ["_law_actual", "_law_due"] (fun _ _ _ vs H Q _ => ∃ a b : Int, vs = [.int a, .int b] ∧ Q (.bl (decide (a = b))) H) := by
  refine okHP W.F__law_is sc__law_is (fun a0 cls0 d0 vs H Q E h => ?_) (fun cdv A outer s H vs Q E p cls d0 hot Z hr h => ?_)
  · obtain ⟨n, m, rfl, _⟩ := h
    rfl
  · obtain ⟨n, m, rfl, k⟩ := h
    have hu1 := hu1H_of hr
    have hu64 := huH_of hr
    refine ⟨_, (pss_one (ps_ret (pe_and (pe_callB call_isi (by rfl) W.n_isinstance bb_isinstance (pa_cons (pv 0) (pa_cons (pe_bt rfl W.n_int bb_int) pa_nil))) (pe_and (pe_notT (pe_callB call_isi (by rfl) W.n_isinstance bb_isinstance (pa_cons (pv 0) (pa_cons (pe_bt rfl W.n_bool bb_bool) pa_nil)))) (pe_one (pe_cmpR (op_eqU hu64) (pv 0) (pv 1) (by first | exact nomark _ | rfl))))))), ?_⟩
    refine ⟨_, rfl, ?_⟩
    refine ⟨_, _, _, _, _, rfl, ClsV.ty _, TyX.base (TyOf.int _), kt_int_int, ?_⟩
    refine ⟨_, rfl, ?_⟩
    refine iteT ?_
    refine ⟨_, rfl, ?_⟩
    refine ⟨_, _, _, _, _, rfl, ClsV.ty _, TyX.base (TyOf.int _), kt_int_bool, ?_⟩
    refine ⟨_, rfl, _, rfl, iteT ?_⟩
    refine ⟨_, rfl, _, rfl, rfl, ?_⟩
    show Q (.bl (decide (V.int n = V.int m))) H
    rw [I_dec]
    exact k
def sp_word : Sp := fun vs H Q _ => ∃ x : Int, vs = [.int x] ∧ ∀ r : Int, Q (.int r) H
theorem ok__law_word (W : WT P K mg base) : FnOk P w K mg base CX0 1 W.f__law_word W.fd__law_word ["_law_x"] sp_word := by
  refine W.F__law_word.ok sc__law_word (fun vs H Q E h => ?_) (fun cdv A outer s H vs Q E hr h => ?_)
  · obtain ⟨n, rfl, _⟩ := h
    rfl
  · obtain ⟨x, rfl, k⟩ := h
    have hu1 := hu_of hr
    have hu64 := hu64_of hr
    refine ⟨_, (pss_cons (ps_set (i := 1) sc__law_word.nd rfl (by first | exact Or.inl rfl | exact Or.inr rfl) (pe_op op_mulU (pe_op op_fdivW (pv 0) pe_int) pe_int))
      (pss_cons (ps_if (pt_cmpR (op_eqU hu64) (pe_op op_mod (pe_callTy call_intU (by rfl) W.n_int bb_int (pa_cons (pv 0) pa_nil)) pe_int) pe_int (by first | exact nomark _ | rfl)) (pss_one (ps_ret (pe_op op_addU (pe_op op_mulU pe_int (pe_op op_sub (pe_op op_mod (pe_callTy call_intU (by rfl) W.n_int bb_int (pa_cons (pv 1) pa_nil)) pe_int) pe_int)) pe_int))) pss_nil)
      (pss_cons (ps_if (pt_cmpR (op_eqU hu64) (pe_op op_mod (pe_callTy call_intU (by rfl) W.n_int bb_int (pa_cons (pv 0) pa_nil)) pe_int) pe_int (by first | exact nomark _ | rfl)) (pss_one (ps_ret (pe_op op_addU (pe_op op_mulU pe_int (pe_op op_mod (pe_callTy call_intU (by rfl) W.n_int bb_int (pa_cons (pv 1) pa_nil)) pe_int)) pe_int))) pss_nil)
      (pss_one (ps_ret (pe_op op_mulU pe_int (pe_op op_mod (pe_callTy call_intU (by rfl) W.n_int bb_int (pa_cons (pv 1) pa_nil)) pe_int))))))), ?_⟩
    refine ⟨_, rfl, _, _, rfl, rfl, ⟨by decide, by decide⟩, Or.inr ⟨by decide, by decide⟩, ?_⟩
    refine ⟨_, rfl, _, _, rfl, rfl, (by show (0 : Int) < 3; decide), rfl, _, rfl, ?_⟩
    refine iteD (fun h => ?_) (fun h => ?_)
    · refine ⟨_, rfl, _, _, rfl, rfl, (by show (0 : Int) < 536870912; decide), _, _, rfl, rfl, ?_⟩
      exact ⟨Or.inl ⟨by decide, by decide⟩, k _⟩
    · refine ⟨_, rfl, _, _, rfl, rfl, (by show (0 : Int) < 3; decide), rfl, _, rfl, ?_⟩
      refine iteD (fun h => ?_) (fun h => ?_)
      · refine ⟨_, rfl, _, _, rfl, rfl, (by show (0 : Int) < 100000; decide), ?_⟩
        exact ⟨Or.inl ⟨by decide, by decide⟩, k _⟩
      · refine ⟨_, rfl, _, _, rfl, rfl, (by show (0 : Int) < 100000; decide), ?_⟩
        exact ⟨Or.inl ⟨by decide, by decide⟩, k _⟩
def sp_deeds : Sp := fun vs H Q _ => ∃ c k : Int, vs = [.int c, .int k] ∧ 0 ≤ k ∧ k ≤ 1000 ∧ ∀ q (x1 x2 : Int), H q = none → Q (.ref q) (upd H q (.lst [.int x1, .int x2]))
theorem ok__law_deeds (W : WT P K mg base) : FnOk P w K mg base CX0 2 W.f__law_deeds W.fd__law_deeds ["_law_cell", "_law_k"] sp_deeds := by
  refine W.F__law_deeds.ok sc__law_deeds (fun vs H Q E h => ?_) (fun cdv A outer s H vs Q E hr h => ?_)
  · obtain ⟨n, m, rfl, _⟩ := h
    rfl
  · obtain ⟨c, n, rfl, h0, h1, k⟩ := h
    have hu1 := hu_of hr
    have hu64 := hu64_of hr
    refine ⟨_, (pss_cons (ps_if (pt_cmpR op_geU (pv 0) (pe_op op_pow pe_int pe_int) (by first | exact nomark _ | rfl)) (pss_one (ps_ret (pe_lst (pa_cons (pe_op op_mod (pe_callTy call_intU (by rfl) W.n_int bb_int (pa_cons (pv 0) pa_nil)) (pe_op op_pow pe_int pe_int)) (pa_cons (pe_op op_fdivW (pv 0) (pe_op op_pow pe_int pe_int)) pa_nil))))) pss_nil)
      (pss_one (ps_ret (pe_lst (pa_cons (pe_call (ok__law_number W) (hr.mono (by decide)) rfl W.g__law_number W.F__law_number.kp W.b__law_number .nil pass0 (pa_cons (pv 0) (pa_cons (pv 1) pa_nil))) (pa_cons (pe_call (ok__law_number W) (hr.mono (by decide)) rfl W.g__law_number W.F__law_number.kp W.b__law_number .nil pass0 (pa_cons (pv 0) (pa_cons (pe_op op_addU (pv 1) pe_int) pa_nil))) pa_nil)))))), ?_⟩
    refine ⟨_, rfl, _, _, rfl, rfl, ⟨by decide, by decide, by decide⟩, _, rfl, ?_⟩
    refine iteD (fun h => ?_) (fun h => ?_)
    · refine ⟨_, rfl, _, _, rfl, rfl, ⟨by decide, by decide, by decide⟩, ?_⟩
      refine ⟨_, _, rfl, rfl, (by show (0 : Int) < 10 ^ 15; decide), ?_⟩
      refine ⟨_, rfl, _, _, rfl, rfl, ⟨by decide, by decide, by decide⟩, ?_⟩
      refine ⟨_, _, rfl, rfl, ⟨by decide, by decide⟩, ?_⟩
      exact ⟨(by show 2 ≤ sizeLine; decide), fun q hq => k q _ _ hq⟩
    · refine ⟨_, rfl, _, rfl, ?_⟩
      refine ⟨c, n, rfl, h0, (by omega), fun x1 _ => ?_⟩
      refine ⟨_, rfl, _, rfl, ?_⟩
      refine ⟨c, n + 100, rfl, (by omega), (by omega), fun x2 _ => ?_⟩
      exact ⟨(by show 2 ≤ sizeLine; decide), fun q hq => k q x1 x2 hq⟩
def lvI (O : List Ob) (n : Nat) : List Nat := (List.range n).filter fun i => match O[i]? with
  | some o => o.live
  | none => false
theorem lvI_mem {O : List Ob} {n i : Nat} (h : i ∈ lvI O n) : i < n ∧ ∃ o, O[i]? = some o ∧ o.live = true := by
  unfold lvI at h
  rw [List.mem_filter, List.mem_range] at h
  obtain ⟨h1, h2⟩ := h
  refine ⟨h1, ?_⟩
  cases e : O[i]? with
  | none => rw [e] at h2; cases h2
  | some o => rw [e] at h2; exact ⟨o, rfl, h2⟩
theorem lvI_succ {O : List Ob} {i : Nat} {o : Ob} (h : O[i]? = some o) : lvI O (i + 1) = lvI O i ++ if o.live = true then [i] else [] := by
  unfold lvI
  rw [List.range_succ, List.filter_append]
  congr 1
  show List.filter _ [i] = _
  cases hv : o.live with
  | true => rw [List.filter_cons_of_pos (by rw [h]; exact hv)]; rfl
  | false => rw [List.filter_cons_of_neg (by rw [h]; show ¬ o.live = true; rw [hv]; decide)]; rfl
theorem lvI_len (O : List Ob) (n : Nat) : (lvI O n).length ≤ n := by
  unfold lvI
  have := List.length_filter_le (fun i => match O[i]? with
    | some o => o.live
    | none => false) (List.range n)
  rw [List.length_range] at this
  exact this
def natV (l : List Nat) : List V := l.map fun i : Nat => V.int (i : Int)
def sp_living : Sp := fun vs H Q _ => ∃ rl A O, vs = [.ref rl] ∧ RowAt H rl A O ∧ O.length ≤ 1000 ∧ ∀ L, H L = none → Q (.ref L) (upd H L (.lst (natV (lvI O O.length))))
theorem ok__law_living (W : WT P K mg base) : FnOk P w K mg base CX0 1 W.f__law_living W.fd__law_living ["_law_row"] sp_living := by
  refine W.F__law_living.ok sc__law_living (fun vs H Q E h => ?_) (fun cdv A outer s H vs Q E hr h => ?_)
  · obtain ⟨rl, A, O, rfl, _⟩ := h
    rfl
  · obtain ⟨rl, A, O, rfl, R, hO, k⟩ := h
    have hu1 := hu_of hr
    have hu64 := hu64_of hr
    refine ⟨_, (pss_one (ps_ret (pe_lc (own := [("_law_k", 1)]) (g := gName 1)  rfl sc__law_living.nd (pi_range1 (by rfl) W.n_range (pa_cons (pe_callB call_lenU (by rfl) W.n_len bb_len (pa_cons (pv 0) pa_nil)) pa_nil)) (blkOk_by (N := N__law_living) (sc := defScope s__law_living) (by decide +kernel)) (fun _ _ _ _ _ => (pg_name (i := 1) sc__law_living.nd rfl (by first | exact Or.inl rfl | exact Or.inr rfl))) (fun _ _ _ _ _ => pts_one (pt_truthK (K := K) rfl (pe_ix (ix_UK (K := K) rfl (by exact hu1)) (pe_ix (ix_UK (K := K) rfl (by exact hu1)) (pv 0) (pv 1) (fun _ _ => rfl)) pe_int (fun _ _ => rfl)) (by intro _; rfl))) (fun _ _ _ _ _ => (pv 1))))), ?_⟩
    refine ⟨_, rfl, Or.inl ⟨_, Or.inl (SqL.of R.rl), ?_⟩⟩
    rw [List.length_map, R.len]
    refine ⟨_, rfl, by show -(2 ^ 62) ≤ ((O.length : Nat) : Int); omega, by show ((O.length : Nat) : Int) < 2 ^ 62; omega, fun L hL => ?_⟩
    refine lc_range (lo := 0) (n := O.length) (fun i H' => H' = upd H L (.lst (natV (lvI O i)))) rfl (fun i H' hi e => ?_) (fun H' e => ?_)
    · subst e
      have ho := List.getElem?_eq_getElem hi
      obtain ⟨a, ha, q1, q2⟩ := R.get ho
      have r1 := Fr.new (F := []) (o := .lst (natV (lvI O i))) hL rl _ R.rl (by simp)
      have q1' := Fr.new (F := []) (o := .lst (natV (lvI O i))) hL a.1 _ q1 (by simp)
      refine ⟨rfl, ?_⟩
      refine ⟨_, rfl, _, rfl, Or.inl ⟨_, _, _, rfl, Or.inl (SqL.of r1), (by rw [Int.zero_add]; exact atI_nat (j := i) (by rw [List.getElem?_map, ha]; rfl)), ?_⟩⟩
      refine Or.inl ⟨_, _, _, rfl, Or.inl (SqL.of q1'), rfl, ?_⟩
      refine ⟨_, rfl, ?_⟩
      have e := lvI_succ ho
      cases hv : O[i].live with
      | true =>
        rw [hv, if_pos rfl] at e
        refine iteT ?_
        refine ⟨_, rfl, _, upd_same, ?_, ?_⟩
        · unfold natV
          rw [List.length_map, sizeLine_eq]
          have := lvI_len O i
          omega
        · rw [upd_upd, e, Int.zero_add]; unfold natV; rw [List.map_append]; rfl
      | false =>
        rw [hv, if_neg (by decide), List.append_nil] at e
        refine iteF ?_
        rw [e]
    · subst e
      exact k L hL
end

end LX
namespace LX
open PySem PySem.Spec PyProof.Rows L2 NdefX
section
variable {X : Cx} {K : PySem.W.Frag}
def rListOf (K : PySem.W.Frag) : List V → Hp → VK → Prop := fun xs H Q => ∃ p ys, xs = [.ref p] ∧ (SqL K H p ys ∨ SqT K H p ys) ∧ ∀ l, H l = none → Q (.ref l) (upd H l (.lst ys))
theorem call_list_ofK (e : X.K = K) : CallR X (.type "list") (rListOf K) := by subst e; exact call_list_of
end
section
variable {P : Program} {w : World} {K : PySem.W.Frag} {mg : Str → Option Value} {base : Heap}
end
section
variable {P : Program} {w : World} {K : PySem.W.Frag} {mg : Str → Option Value} {base : Heap}
theorem fr_none {H H' : Hp} {p : Addr} (f : Fr [] H H') (h : H' p = none) : H p = none := by
  cases e : H p with
  | none => rfl
  | some o => rw [f _ _ e (by simp)] at h; cases h
end
section
variable {P : Program} {w : World} {K : PySem.W.Frag} {mg : Str → Option Value} {base : Heap}
def liveN (O : List Ob) : List Int := (O.filter (·.live)).map (·.num)
def sp_freeR : Sp := fun vs H Q _ => ∃ rl A O, vs = [.ref rl] ∧ RowAt H rl A O ∧ O.length ≤ 1000 ∧ ∀ (m : Int) H', 0 ≤ m → m ∉ liveN O → (∀ j : Int, 0 ≤ j → j < m → j ∈ liveN O) → Fr [] H H' → Q (.int m) H'
theorem ok__law_free (W : WT P K mg base) : FnOk P w K mg base CX0 1 W.f__law_free W.fd__law_free ["_law_row"] sp_freeR := by
  refine W.F__law_free.ok sc__law_free (fun vs H Q E h => ?_) (fun cdv Ar outer s H vs Q E hr h => ?_)
  · obtain ⟨rl, A, O, rfl, _⟩ := h
    rfl
  · obtain ⟨rl, A, O, rfl, R, hO, k⟩ := h
    have hu1 := hu_of hr
    have hu64 := hu64_of hr
    refine ⟨_, (pss_cons (ps_setLc (i := 1) (own := [("_law_one", 2)]) (g := gName 2)  rfl sc__law_free.nd rfl rfl (sw_true rfl rfl rfl (by decide +kernel)) (pi_list (pv 0)) (blkOk_by (N := N__law_free) (sc := defScope s__law_free) (by decide +kernel)) (fun _ _ _ _ _ => (pg_name (i := 2) sc__law_free.nd rfl (by first | exact Or.inl rfl | exact Or.inr rfl))) (fun _ _ _ _ _ => pts_one (pt_truthK (K := K) rfl (pe_ix (ix_UK (K := K) rfl (by exact hu1)) (pv 2) pe_int (fun _ _ => rfl)) (by intro _; rfl))) (fun _ _ _ _ _ => (pe_ix (ix_UK (K := K) rfl (by exact hu1)) (pv 2) pe_int (fun _ _ => rfl))))
      (pss_cons (ps_for PassesOwn.never rfl (pi_range1 (by rfl) W.n_range (pa_cons (pe_op op_addU (pe_callB call_lenU (by rfl) W.n_len bb_len (pa_cons (pv 1) pa_nil)) pe_int) pa_nil)) (pg_name (i := 3) sc__law_free.nd rfl (by first | exact Or.inl rfl | exact Or.inr rfl)) (pss_one (ps_if (pt_cmpR (op_ninU hu1) (pv 3) (pv 1) (by first | exact nomark _ | rfl)) (pss_one (ps_ret (pv 3))) pss_nil)))
      (pss_one (ps_ret pe_int)))), ?_⟩
    refine ⟨_, rfl, rl, rfl, ⟨_, SqL.of R.rl⟩, fun L hL => ?_⟩
    refine lc_list (K := K) (a := rl) (xs := A.map fun a => V.ref a.1) (fun i H' => H' = upd H L (.lst ((liveN (O.take i)).map V.int))) rfl (fun i H' _ e => ?_) (fun i x H' hx e => ?_) (fun H' e => ?_)
    · subst e
      exact SqL.of (by rw [upd_ne (ne_of_none R.rl hL)]; exact R.rl)
    · subst e
      rw [List.getElem?_map] at hx
      obtain ⟨a, ha, rfl⟩ := Option.map_eq_some_iff.mp hx
      have hi : i < O.length := by rw [← R.len]; exact (List.getElem?_eq_some_iff.mp ha).1
      have ho := List.getElem?_eq_getElem hi
      obtain ⟨q1, q2⟩ := R.it i a _ ha ho
      have q1' := Fr.new (F := []) (o := .lst ((liveN (O.take i)).map V.int)) hL a.1 _ q1 (by simp)
      refine ⟨rfl, ?_⟩
      refine ⟨_, rfl, Or.inl ⟨_, _, _, rfl, Or.inl (SqL.of q1'), rfl, ?_⟩⟩
      refine ⟨_, rfl, ?_⟩
      unfold liveN
      cases hv : O[i].live with
      | true =>
        refine iteT ?_
        refine ⟨_, rfl, Or.inl ⟨_, _, _, rfl, Or.inl (SqL.of q1'), rfl, ?_⟩⟩
        refine ⟨_, upd_same, ?_, ?_⟩
        · rw [List.length_map, List.length_map, sizeLine_eq]
          have := List.length_filter_le (fun o : Ob => o.live) (O.take i)
          rw [List.length_take] at this
          omega
        · rw [upd_upd, take_filter_yes ho hv, List.map_append, List.map_append]; rfl
      | false =>
        refine iteF ?_
        rw [take_filter_no ho hv]
    subst e
    rw [List.length_map, R.len, List.take_length]
    have f1 : Fr [] H (upd H L (.lst ((liveN O).map V.int))) := Fr.new hL
    have ha : upd H L (.lst ((liveN O).map V.int)) L = some (.lst ((liveN O).map V.int)) := upd_same
    show gName 1 (V.ref L) _ (upd H L (.lst ((liveN O).map V.int))) _
    generalize upd H L (.lst ((liveN O).map V.int)) = H1 at f1 ha
    have hl : (liveN O).length ≤ 1000 := by
      unfold liveN
      rw [List.length_map]
      have := List.length_filter_le (fun o : Ob => o.live) O
      omega
    generalize liveN O = ns at hl ha k
    refine ⟨_, rfl, Or.inl ⟨_, Or.inl (SqL.of ha), ?_⟩⟩
    rw [List.length_map]
    refine ⟨((ns.length + 1 : Nat) : Int), rfl, by omega, by omega, ?_⟩
    rw [Int.toNat_natCast]
    refine for_range (lo := 0) (n := ns.length + 1) (fun i σ H' => (∃ v, σ = [some (.ref rl), some (.ref L), none, v]) ∧ H' = H1 ∧ ∀ j : Int, 0 ≤ j → j < i → j ∈ ns) ⟨⟨_, rfl⟩, rfl, fun j h0 h1 => by omega⟩ (fun i σ H' hi hI => ?_) (fun σ H' hI => ?_)
    · obtain ⟨⟨v, rfl⟩, rfl, hI⟩ := hI
      refine ⟨_, rfl, _, rfl, Or.inl ⟨_, Or.inl (SqL.of ha), rfl, flat_ints _, ?_⟩⟩
      rw [in_ints]
      refine ⟨_, rfl, ?_⟩
      refine iteND (fun hn => ?_) (fun hn => ?_)
      · exact ⟨_, rfl, k _ _ (by omega) hn (fun j h0 h1 => hI j h0 (by omega)) f1⟩
      · refine ⟨⟨_, rfl⟩, rfl, fun j h0 h1 => ?_⟩
        by_cases e : j = 0 + (i : Int)
        · rw [e]; exact hn
        · exact hI j h0 (by omega)
    · obtain ⟨_, _, hI⟩ := hI
      exfalso
      have := pig (α := Int) (fun n => (n : Int)) (fun i j e => by have e : (i : Int) = j := e; omega) (ns.length + 1) ns fun n hn => hI n (by omega) (by omega)
      omega
/-- a row that was made new -/
structure NewRow (H H' : Hp) (q : Addr) (A : List (Addr × Addr)) (O : List Ob) : Prop where
  R : RowAt H' q A O
  D : Sep A q []
  q : H q = none
  nA : ∀ a ∈ A, H a.1 = none ∧ H a.2 = none
  f : Fr [] H H'
def sp_copy : Sp := fun vs H Q _ => ∃ rl A O, vs = [.ref rl] ∧ RowAt H rl A O ∧ O.length ≤ 1000 ∧ ∀ q A' H', NewRow H H' q A' O → Q (.ref q) H'
theorem ok__law_copy (W : WT P K mg base) : FnOk P w K mg base CX0 1 W.f__law_copy W.fd__law_copy ["_law_row"] sp_copy := by
  refine W.F__law_copy.ok sc__law_copy (fun vs H Q E h => ?_) (fun cdv Ar outer s H vs Q E hr h => ?_)
  · obtain ⟨rl, A, O, rfl, _⟩ := h
    rfl
  · obtain ⟨rl, A, O, rfl, R, hO, k⟩ := h
    have hu1 := hu_of hr
    have hu64 := hu64_of hr
    refine ⟨_, (pss_one (ps_ret (pe_lc (own := [("_law_one", 1)]) (g := gName 1) (tt := tYes) rfl sc__law_copy.nd (pi_list (pv 0)) (blkOk_by (N := N__law_copy) (sc := defScope s__law_copy) (by decide +kernel)) (fun _ _ _ _ _ => (pg_name (i := 1) sc__law_copy.nd rfl (by first | exact Or.inl rfl | exact Or.inr rfl))) (fun _ _ _ _ _ => pts_nil) (fun _ _ _ _ _ => (pe_lst (pa_cons (pe_ix (ix_UK (K := K) rfl (by exact hu1)) (pv 1) pe_int (fun _ _ => rfl)) (pa_cons (pe_ix (ix_UK (K := K) rfl (by exact hu1)) (pv 1) pe_int (fun _ _ => rfl)) (pa_cons (pe_callTy (call_list_ofK (K := K) rfl) (by rfl) W.n_list bb_list (pa_cons (pe_ix (ix_UK (K := K) rfl (by exact hu1)) (pv 1) pe_int (fun _ _ => rfl)) pa_nil)) (pa_cons (pe_ix (ix_UK (K := K) rfl (by exact hu1)) (pv 1) pe_int (fun _ _ => rfl)) pa_nil))))))))), ?_⟩
    refine ⟨_, rfl, rl, rfl, ⟨_, SqL.of R.rl⟩, fun L hL => ?_⟩
    refine lc_list (K := K) (a := rl) (xs := A.map fun a => V.ref a.1) (fun i H' => ∃ A', NewRow H H' L A' (O.take i)) ⟨[], ⟨upd_same, rfl, fun i a o h => by simp at h⟩, ⟨fun i j a b h => by simp at h, fun a b h => by simp at h, fun a h => by simp at h, by simp, fun a h => by simp at h⟩, hL, fun a h => by simp at h, Fr.new hL⟩ (fun i H' _ e => ?_) (fun i x H' hx e => ?_) (fun H' e => ?_)
    · obtain ⟨A', N⟩ := e
      exact SqL.of (N.f _ _ R.rl (by simp))
    · obtain ⟨A', N⟩ := e
      rw [List.getElem?_map] at hx
      obtain ⟨a, ha, rfl⟩ := Option.map_eq_some_iff.mp hx
      have hi : i < O.length := by rw [← R.len]; exact (List.getElem?_eq_some_iff.mp ha).1
      have ho := List.getElem?_eq_getElem hi
      obtain ⟨q1, q2⟩ := R.it i a _ ha ho
      have q1 := N.f _ _ q1 (by simp)
      have q2 := N.f _ _ q2 (by simp)
      refine ⟨rfl, ?_⟩
      refine ⟨_, rfl, Or.inl ⟨_, _, _, rfl, Or.inl (SqL.of q1), rfl, ?_⟩⟩
      refine ⟨_, rfl, Or.inl ⟨_, _, _, rfl, Or.inl (SqL.of q1), rfl, ?_⟩⟩
      refine ⟨_, rfl, Or.inl ⟨_, _, _, rfl, Or.inl (SqL.of q1), rfl, ?_⟩⟩
      refine ⟨_, _, rfl, Or.inl (SqL.of q2), fun c hc => ?_⟩
      have g1 : Fr [] H' (upd H' c (.lst (O[i].sl.map V.int))) := Fr.new hc
      have c1 : upd H' c (.lst (O[i].sl.map V.int)) c = some (.lst (O[i].sl.map V.int)) := upd_same
      generalize upd H' c (.lst (O[i].sl.map V.int)) = H2 at g1 c1
      refine ⟨_, rfl, Or.inl ⟨_, _, _, rfl, Or.inl (SqL.of (g1 _ _ q1 (by simp))), rfl, ?_⟩⟩
      refine ⟨(by show 4 ≤ sizeLine; decide), fun e he => ?_⟩
      have g2 : Fr [] H2 (upd H2 e (.lst [.int O[i].num, .int O[i].kind, .ref c, .bl O[i].live])) := Fr.new he
      have e1 : upd H2 e (.lst [.int O[i].num, .int O[i].kind, .ref c, .bl O[i].live]) e = some (.lst [.int O[i].num, .int O[i].kind, .ref c, .bl O[i].live]) := upd_same
      have nec : e ≠ c := (ne_of_none c1 he).symm
      have he' : H' e = none := fr_none g1 he
      have c2 := g2 _ _ c1 (by simp)
      generalize upd H2 e (.lst [.int O[i].num, .int O[i].kind, .ref c, .bl O[i].live]) = H3 at g2 e1 c2
      have g2 := g1.trans g2
      have eL : e ≠ L := (ne_of_none N.R.rl he').symm
      have cL : c ≠ L := (ne_of_none N.R.rl hc).symm
      refine ⟨_, g2 _ _ N.R.rl (by simp), ?_, A' ++ [(e, c)], ?_⟩
      · rw [List.length_map, N.R.len, List.length_take, sizeLine_eq]; omega
      have htk : O.take (i + 1) = O.take i ++ [O[i]] := by rw [List.take_succ, ho]; rfl
      have g3 : Fr [L] H3 (upd H3 L (.lst (A'.map (fun a => V.ref a.1) ++ [V.ref e]))) := Fr.at (by simp)
      have oth : ∀ b ∈ A', (b.1 ≠ e ∧ b.1 ≠ c ∧ b.2 ≠ e ∧ b.2 ≠ c) := fun b hb => by
        obtain ⟨⟨xs, h1⟩, ⟨ys, h2⟩⟩ := N.R.has hb
        exact ⟨ne_of_none h1 he', ne_of_none h1 hc, ne_of_none h2 he', ne_of_none h2 hc⟩
      rw [htk]
      refine ⟨N.R.snoc (a := (e, c)) ?_ (fun b hb d hd u hu => ?_) ?_ ?_, N.D.snoc nec ⟨eL, cL⟩ ⟨by simp, by simp⟩ oth, N.q, fun b hb => ?_, ?_⟩
      · rw [upd_same, List.map_append]; rfl
      · refine g3 _ _ (g2 _ _ hu (by simp)) ?_
        have d3 := N.D.d3 b hb
        rcases hd with rfl | rfl
        · simpa using d3.1
        · simpa using d3.2
      · rw [upd_ne eL]; exact e1
      · rw [upd_ne cL]; exact c2
      · rcases List.mem_append.mp hb with hb | hb
        · exact N.nA b hb
        · have e1 : b = (e, c) := by simpa using hb
          rw [e1]
          exact ⟨fr_none N.f he', fr_none N.f hc⟩
      · exact (N.f.trans g2).skip N.q
    · obtain ⟨A', N⟩ := e
      rw [List.length_map, R.len, List.take_length] at N
      exact k L A' H' N
def sp_snap : Addr → Sp := fun C vs H Q _ => ∃ st dx wl pl room entries least ws kvs, vs = [.ref st] ∧ StoreAt H C st dx wl pl room entries least ws kvs ∧
  ∀ H' s w' d, H' s = some (.tup [.ref w', .ref d]) → H' w' = some (.lst (ws.map V.int)) → H' d = some (.dK kvs) → Fr [] H H' → H s = none → H w' = none → H d = none → Q (.ref s) H'
theorem ok_Store_snapshot (W : WT P K mg base) : FnOk P w K mg base CX0 1 W.f_Store_snapshot W.fd_Store_snapshot ["self"] (sp_snap W.c_Store) := by
  refine W.F_Store_snapshot.ok sc_Store_snapshot (fun vs H Q E h => ?_) (fun cdv A outer s H vs Q E hr h => ?_)
  · obtain ⟨st, dx, wl, pl, room, entries, least, ws, kvs, rfl, _⟩ := h
    rfl
  · obtain ⟨st, dx, wl, pl, room, entries, least, ws, kvs, rfl, S, k⟩ := h
    have hu1 := hu_of hr
    have hu64 := hu64_of hr
    refine ⟨_, (pss_one (ps_ret (pe_tup (pa_cons (pe_callTy call_list_of (by rfl) W.n_list bb_list (pa_cons (pe_fld (pv 0) rfl) pa_nil)) (pa_cons (pe_callTy call_dictD (by rfl) W.n_dict bb_dict (pa_cons (pe_fld (pv 0) rfl) pa_nil)) pa_nil))))), ?_⟩
    refine ⟨_, rfl, st, _, dx, _, _, rfl, S.st, W.C_Store, W.na_Store_words, rfl, ?_⟩
    refine ⟨_, _, rfl, Or.inl (SqL.of S.wl), fun w' hw => ?_⟩
    have f1 : Fr [] H (upd H w' (.lst (ws.map V.int))) := Fr.new hw
    have w1 : upd H w' (.lst (ws.map V.int)) w' = some (.lst (ws.map V.int)) := upd_same
    generalize upd H w' (.lst (ws.map V.int)) = H1 at f1 w1
    have S1 := S.keep f1 (by simp)
    refine ⟨_, rfl, st, _, dx, _, _, rfl, S1.st, W.C_Store, W.na_Store__places, rfl, ?_⟩
    refine ⟨_, _, rfl, Rd.of S1.pl, fun d hd => ?_⟩
    have f2 : Fr [] H1 (upd H1 d (.dK kvs)) := Fr.new hd
    have d2 : upd H1 d (.dK kvs) d = some (.dK kvs) := upd_same
    generalize upd H1 d (.dK kvs) = H2 at f2 d2
    refine ⟨(by show 2 ≤ sizeLine; decide), fun s hs => ?_⟩
    have f3 : Fr [] H2 (upd H2 s (.tup [.ref w', .ref d])) := Fr.new hs
    exact k _ s w' d upd_same (f3 _ _ (f2 _ _ w1 (by simp)) (by simp)) (f3 _ _ d2 (by simp)) ((f1.trans f2).trans f3) (fr_none (f1.trans f2) hs) hw (fr_none f1 hd)
def sp_restore : Addr → Sp := fun C vs H Q _ => ∃ st dx wl pl room entries least ws kvs sn w' d ws' kvs', vs = [.ref st, .ref sn] ∧ StoreAt H C st dx wl pl room entries least ws kvs ∧ H sn = some (.tup [.ref w', .ref d]) ∧ H w' = some (.lst (ws'.map V.int)) ∧ H d = some (.dK kvs') ∧
  ∀ H' wl' pl', StoreAt H' C st dx wl' pl' room entries 0 ws' kvs' → Fr [st] H H' → H wl' = none → H pl' = none → Q .non H'
theorem ok_Store_restore (W : WT P K mg base) : FnOk P w K mg base CX0 1 W.f_Store_restore W.fd_Store_restore ["self", "snapshot"] (sp_restore W.c_Store) := by
  refine W.F_Store_restore.ok sc_Store_restore (fun vs H Q E h => ?_) (fun cdv A outer s H vs Q E hr h => ?_)
  · obtain ⟨st, dx, wl, pl, room, entries, least, ws, kvs, sn, w', d, ws', kvs', rfl, _⟩ := h
    rfl
  · obtain ⟨st, dx, wl, pl, room, entries, least, ws, kvs, sn, w', d, ws', kvs', rfl, S, h1, h2, h3, k⟩ := h
    have hu1 := hu_of hr
    have hu64 := hu64_of hr
    refine ⟨_, (pss_cons (ps_asg (pv 1) (pg_tup rfl (pgs_cons (pg_name (i := 2) sc_Store_restore.nd rfl (by first | exact Or.inl rfl | exact Or.inr rfl)) (pgs_cons (pg_name (i := 3) sc_Store_restore.nd rfl (by first | exact Or.inl rfl | exact Or.inr rfl)) pgs_nil))))
      (pss_cons (ps_fld (pv 0) (pe_callTy call_list_of (by rfl) W.n_list bb_list (pa_cons (pv 2) pa_nil)) rfl)
      (pss_cons (ps_fld (pv 0) (pe_callTy call_dictD (by rfl) W.n_dict bb_dict (pa_cons (pv 3) pa_nil)) rfl)
      (pss_one (ps_fld (pv 0) pe_int rfl))))), ?_⟩
    refine ⟨_, rfl, sn, _, rfl, SqT.of h1, rfl, ?_⟩
    refine ⟨_, _, rfl, ?_⟩
    refine ⟨_, _, rfl, ?_⟩
    refine ⟨rfl, ?_⟩
    refine ⟨_, rfl, ?_⟩
    refine ⟨w', _, rfl, Or.inl (SqL.of h2), fun wn hwn => ?_⟩
    have f1 : Fr [] H (upd H wn (.lst (ws'.map V.int))) := Fr.new hwn
    have w1 : upd H wn (.lst (ws'.map V.int)) wn = some (.lst (ws'.map V.int)) := upd_same
    generalize upd H wn (.lst (ws'.map V.int)) = H1 at f1 w1
    have nsw : st ≠ wn := ne_of_none S.st hwn
    refine ⟨_, rfl, st, _, dx, _, rfl, f1 _ _ S.st (by simp), W.C_Store, W.na_Store_words, (by show 5 < 1000; decide), ?_⟩
    have f2 : Fr [st] H1 (upd H1 st (.ins W.c_Store dx (sF room entries wn pl least))) := Fr.at (by simp)
    have st2 : upd H1 st (.ins W.c_Store dx (sF room entries wn pl least)) st = some (.ins W.c_Store dx (sF room entries wn pl least)) := upd_same
    have w2 := f2 _ _ w1 (by simpa using nsw.symm)
    have nsd : st ≠ d := ne_of S.st h3 (by intro z; cases z)
    have d2 := f2 _ _ (f1 _ _ h3 (by simp)) (by simpa using nsd.symm)
    rw [show putF "words" (V.ref wn) (sF room entries wl pl least) = sF room entries wn pl least from rfl]
    generalize upd H1 st (.ins W.c_Store dx (sF room entries wn pl least)) = H2 at f2 st2 w2 d2 ⊢
    refine ⟨_, rfl, ?_⟩
    refine ⟨d, _, rfl, Rd.of d2, fun pn hpn => ?_⟩
    have f3 : Fr [] H2 (upd H2 pn (.dK kvs')) := Fr.new hpn
    have p3 : upd H2 pn (.dK kvs') pn = some (.dK kvs') := upd_same
    have nsp : st ≠ pn := ne_of_none st2 hpn
    generalize upd H2 pn (.dK kvs') = H3 at f3 p3
    refine ⟨_, rfl, st, _, dx, _, rfl, f3 _ _ st2 (by simp), W.C_Store, W.na_Store__places, (by show 5 < 1000; decide), ?_⟩
    refine ⟨_, rfl, st, _, dx, _, rfl, upd_same, W.C_Store, W.na_Store__least, (by show 5 < 1000; decide), ?_⟩
    rw [upd_upd]
    have f4 : Fr [st] H3 (upd H3 st (.ins W.c_Store dx (sF room entries wn pn 0))) := Fr.at (by simp)
    refine k _ wn pn ⟨upd_same, f4 _ _ (f3 _ _ w2 (by simp)) (by simpa using nsw.symm), f4 _ _ p3 (by simpa using nsp.symm)⟩ ((((f1.mono (by simp)).trans f2).trans (f3.mono (by simp))).trans f4) hwn ?_
    cases e : H pn with
    | none => rfl
    | some o => rw [f2 _ _ (f1 _ _ e (by simp)) (by simpa using nsp.symm)] at hpn; cases hpn
end

end LX
namespace LX
open PySem PySem.Spec PyProof.Rows L2 NdefX
theorem flat_len {O : List Ob} (h : ∀ o ∈ O, o.sl.length ≤ 79) : (flat O).length ≤ 82 * O.length := by
  induction O with
  | nil => exact Nat.zero_le _
  | cons o r ih =>
    have := ih fun x hx => h x (List.mem_cons_of_mem _ hx)
    have := h o List.mem_cons_self
    rw [flat_cons, List.length_append, fl_len, List.length_cons]
    omega
theorem Good.re {O : List Ob} {kvs : List (Key × V)} {least m : Int} (G : Good O kvs least) (h : Seen kvs m) : Good O kvs m := ⟨G.val, G.nd, G.un, h⟩
theorem seen0 {kvs : List (Key × V)} : Seen kvs 0 := ⟨Int.le_refl _, fun n h0 h1 => absurd h1 (by omega)⟩
theorem Good.has {O : List Ob} {kvs : List (Key × V)} {least : Int} (G : Good O kvs least) (n : Int) : (valV kvs (.inl n)).isSome = true ↔ n ∈ liveN O := by
  unfold liveN
  constructor
  · intro h
    obtain ⟨v, hv⟩ := Option.isSome_iff_exists.mp h
    obtain ⟨i, o, ho, hl, e, _⟩ := (G.val _ _).mp hv
    exact List.mem_map.mpr ⟨o, List.mem_filter.mpr ⟨List.mem_of_getElem? ho, hl⟩, (Sum.inl.inj e).symm⟩
  · intro h
    obtain ⟨o, ho, rfl⟩ := List.mem_map.mp h
    obtain ⟨h1, h2⟩ := List.mem_filter.mp ho
    obtain ⟨i, hi⟩ := List.getElem?_of_mem h1
    rw [G.at hi h2]; rfl
theorem Good.least {O : List Ob} {kvs : List (Key × V)} {least m m' : Int} (G : Good O kvs least) (hs : Seen kvs m') (hn : valV kvs (.inl m') = none) (m0 : 0 ≤ m) (m1 : m ∉ liveN O) (m2 : ∀ j : Int, 0 ≤ j → j < m → j ∈ liveN O) : m' = m := by
  have a : ¬ m < m' := fun h => m1 ((G.has m).mp (hs.2 m m0 h))
  have b : ¬ m' < m := fun h => by
    have := (G.has m').mpr (m2 m' hs.1 h)
    rw [hn] at this
    cases this
  omega
structure Snap where
  p : Addr
  s : Addr
  w : Addr
  d : Addr
  r : Addr
  A : List (Addr × Addr)
  O : List Ob
  kvs : List (Key × V)
def Snap.all (t : Snap) : List Addr := t.p :: t.s :: t.w :: t.d :: t.r :: ad t.A
structure SnapAt (H : Hp) (n : Nat) (t : Snap) : Prop where
  p : H t.p = some (.tup [.ref t.s, .ref t.r])
  s : H t.s = some (.tup [.ref t.w, .ref t.d])
  w : H t.w = some (.lst ((flat t.O).map V.int))
  d : H t.d = some (.dK t.kvs)
  R : RowAt H t.r t.A t.O
  G : Good t.O t.kvs 0
  sz : ∀ o ∈ t.O, o.sl.length ≤ 79
  nn : ∀ o ∈ t.O, 0 ≤ o.num
  len : t.O.length ≤ n
theorem RowAt.adr {H : Hp} {rl : Addr} {A : List (Addr × Addr)} {O : List Ob} (R : RowAt H rl A O) {b : Addr} (h : b ∈ ad A) : ∃ xs, H b = some (.lst xs) := by
  obtain ⟨a, ha, hb⟩ := List.mem_flatMap.mp h
  have := R.has ha
  simp only [List.mem_cons, List.not_mem_nil, or_false] at hb
  rcases hb with rfl | rfl
  · exact this.1
  · exact this.2
theorem SnapAt.has {H : Hp} {n : Nat} {t : Snap} (S : SnapAt H n t) {b : Addr} (h : b ∈ t.all) : ∃ o, H b = some o := by
  unfold Snap.all at h
  simp only [List.mem_cons] at h
  rcases h with rfl | rfl | rfl | rfl | rfl | h
  · exact ⟨_, S.p⟩
  · exact ⟨_, S.s⟩
  · exact ⟨_, S.w⟩
  · exact ⟨_, S.d⟩
  · exact ⟨_, S.R.rl⟩
  · obtain ⟨xs, e⟩ := S.R.adr h
    exact ⟨_, e⟩
theorem RowAt.keepN {H H' : Hp} {rl : Addr} {A : List (Addr × Addr)} {O : List Ob} {F : List Addr} (R : RowAt H rl A O) (f : FrN F H H') (h1 : rl ∉ F) (h2 : ∀ a ∈ A, a.1 ∉ F ∧ a.2 ∉ F) : RowAt H' rl A O :=
  ⟨f.lst R.rl h1, R.len, fun i a o ha ho => ⟨f.lst (R.it i a o ha ho).1 (h2 a (List.mem_of_getElem? ha)).1, f.lst (R.it i a o ha ho).2 (h2 a (List.mem_of_getElem? ha)).2⟩⟩
theorem SnapAt.keep {H H' : Hp} {n m : Nat} {t : Snap} {F : List Addr} (S : SnapAt H n t) (f : FrN F H H') (h : ∀ b ∈ t.all, b ∉ F) (hm : n ≤ m) : SnapAt H' m t := by
  have g : ∀ b ∈ t.all, b ∉ F := h
  unfold Snap.all at h
  refine ⟨f _ _ S.p (h _ (by simp)) (by intro ps z; cases z), f _ _ S.s (h _ (by simp)) (by intro ps z; cases z), f _ _ S.w (h _ (by simp)) (by intro ps z; cases z), f _ _ S.d (h _ (by simp)) (by intro ps z; cases z), S.R.keepN f (h _ (by simp)) (fun a ha => ⟨h _ ?_, h _ ?_⟩), S.G, S.sz, S.nn, Nat.le_trans S.len hm⟩
  · simp [(ad_mem ha).1]
  · simp [(ad_mem ha).2]
def FF (st wl pl rl tk : Addr) (A : List (Addr × Addr)) : List Addr := st :: wl :: pl :: rl :: tk :: ad A
structure St2 (C PT : Addr) (H : Hp) (st dx wl pl rl tk : Addr) (room entries least : Int) (A : List (Addr × Addr)) (O : List Ob) (kvs : List (Key × V)) (U : List Snap) (n : Nat) : Prop where
  S : StoreAt H C st dx wl pl room entries least (flat O) kvs
  G : Good O kvs least
  R : RowAt H rl A O
  D : Sep A rl [st, wl, pl, tk]
  hk : H tk = some (.lst (U.map fun t => V.ref t.p))
  nk : tk ≠ wl
  sz : ∀ o ∈ O, o.sl.length ≤ 79
  nn : ∀ o ∈ O, 0 ≤ o.num
  len : O.length ≤ n
  sn : ∀ t ∈ U, SnapAt H n t ∧ ∀ b ∈ t.all, b ∉ FF st wl pl rl tk A
  tab : LamX.TabS H PT qLam
/-- the state goes on: what was outside of the changing places stands, the places are old ones or new -/
structure Goes (H H' : Hp) (F F' : List Addr) : Prop where
  f : FrN F H H'
  n : ∀ b ∈ F', b ∈ F ∨ H b = none
theorem Goes.trans {H H1 H2 : Hp} {F F1 F2 : List Addr} (a : Goes H H1 F F1) (b : Goes H1 H2 F1 F2) (hs : ∀ c o, H c = some o → ∃ o', H1 c = some o') : Goes H H2 F F2 := by
  refine ⟨fun c o e n t => b.f c o (a.f c o e n t) (fun m => ?_) t, fun c hc => ?_⟩
  · rcases a.n c m with h | h
    · exact n h
    · rw [e] at h; cases h
  · rcases b.n c hc with h | h
    · exact a.n c h
    · cases e : H c with
      | none => exact Or.inr rfl
      | some o => obtain ⟨o', h'⟩ := hs c o e; rw [h] at h'; cases h'
theorem sn_next {H H' : Hp} {F F' : List Addr} {U : List Snap} {n m : Nat} (g : Goes H H' F F') (h : ∀ t ∈ U, SnapAt H n t ∧ ∀ b ∈ t.all, b ∉ F) (hm : n ≤ m) : ∀ t ∈ U, SnapAt H' m t ∧ ∀ b ∈ t.all, b ∉ F' := fun t ht => by
  obtain ⟨h1, h2⟩ := h t ht
  refine ⟨h1.keep g.f h2 hm, fun b hb hF => ?_⟩
  rcases g.n b hF with e | e
  · exact h2 b hb e
  · obtain ⟨o, e'⟩ := h1.has hb
    rw [e] at e'; cases e'

end LX
namespace LX
open PySem PySem.Spec PyProof.Rows L2 NdefX
section
variable {P : Program} {w : World} {K : PySem.W.Frag} {mg : Str → Option Value} {base : Heap}
abbrev TNum : Str := T [110, 117, 109, 98, 101, 114]
abbrev TRoom : Str := T [114, 111, 111, 109]
abbrev TNone : Str := T [110, 111, 110, 101]
def Due2 (room entries m : Int) (f z : Nat) (t : Str) (v : Int) : Prop :=
  (room < (f : Int) + 3 + z ∧ t = TRoom ∧ v = 3 + (z : Int)) ∨ (¬ room < (f : Int) + 3 + z ∧ entries ≤ m ∧ t = TNone ∧ v = entries) ∨ (¬ room < (f : Int) + 3 + z ∧ ¬ entries ≤ m ∧ t = TNum ∧ v = m)
def sp_allocd (C PT : Addr) : Sp := fun vs H Q _ => ∃ st dx wl pl rl tk room entries least A O kvs U n li x, ∃ z : Nat, vs = [.ref st, .ref rl, .ref li, .int x, .int (z : Int)] ∧ St2 C PT H st dx wl pl rl tk room entries least A O kvs U n ∧
  H li = some (.tup [.int room, .int entries]) ∧ z ≤ 79 ∧ n ≤ 200 ∧ room ≤ 1000 ∧ StrOk (.int entries) ∧
  ∀ H' wl' pl' least' A' O' kvs', St2 C PT H' st dx wl' pl' rl tk room entries least' A' O' kvs' U (n + 1) → Goes H H' (FF st wl pl rl tk A) (FF st wl' pl' rl tk A') → Q (.bl true) H'
theorem tab_fr {H H' : Hp} {F : List Addr} {P : Addr} {q : Str} (t : LamX.TabS H P q) (f : Fr F H H') (hF : ∀ b ∈ F, H b = none ∨ ∃ o, H b = some o ∧ (∀ ps, o ≠ .tbl ps) ∧ (∀ φ, o ≠ .ext φ)) : LamX.TabS H' P q := by
  obtain ⟨ps, h1, h2, h3⟩ := t
  refine ⟨ps, f _ _ h1 fun hm => ?_, h2, fun pos cv hc => ?_⟩
  · rcases hF _ hm with e | ⟨o, e, n, _⟩
    · rw [h1] at e; cases e
    · rw [h1] at e
      exact n ps (Option.some.inj e).symm
  · obtain ⟨c, e1, e2⟩ := h3 pos cv hc
    refine ⟨c, e1, f _ _ e2 fun hm => ?_⟩
    rcases hF _ hm with e | ⟨o, e, _, n⟩
    · rw [e2] at e; cases e
    · rw [e2] at e
      exact n _ (Option.some.inj e).symm
theorem St2.ff {C PT : Addr} {H : Hp} {st dx wl pl rl tk : Addr} {room entries least : Int} {A : List (Addr × Addr)} {O : List Ob} {kvs : List (Key × V)} {U : List Snap} {n : Nat} (L : St2 C PT H st dx wl pl rl tk room entries least A O kvs U n) :
    ∀ b ∈ FF st wl pl rl tk A, ∃ o, H b = some o ∧ (∀ ps, o ≠ .tbl ps) ∧ (∀ φ, o ≠ .ext φ) ∧ ∀ xs, o ≠ .tup xs := fun b hb => by
  unfold FF at hb
  simp only [List.mem_cons] at hb
  rcases hb with rfl | rfl | rfl | rfl | rfl | h
  · exact ⟨_, L.S.st, (by intro ps z; cases z), (by intro ps z; cases z), (by intro ps z; cases z)⟩
  · exact ⟨_, L.S.wl, (by intro ps z; cases z), (by intro ps z; cases z), (by intro ps z; cases z)⟩
  · exact ⟨_, L.S.pl, (by intro ps z; cases z), (by intro ps z; cases z), (by intro ps z; cases z)⟩
  · exact ⟨_, L.R.rl, (by intro ps z; cases z), (by intro ps z; cases z), (by intro ps z; cases z)⟩
  · exact ⟨_, L.hk, (by intro ps z; cases z), (by intro ps z; cases z), (by intro ps z; cases z)⟩
  · obtain ⟨xs, e⟩ := L.R.adr h
    exact ⟨_, e, (by intro ps z; cases z), (by intro ps z; cases z), (by intro ps z; cases z)⟩
theorem St2.tup {C PT : Addr} {H : Hp} {st dx wl pl rl tk : Addr} {room entries least : Int} {A : List (Addr × Addr)} {O : List Ob} {kvs : List (Key × V)} {U : List Snap} {n : Nat} (L : St2 C PT H st dx wl pl rl tk room entries least A O kvs U n) {b : Addr} {xs : List V} (h : H b = some (.tup xs)) : b ∉ FF st wl pl rl tk A := fun hb => by
  obtain ⟨o, e, _, _, n⟩ := L.ff b hb
  rw [h] at e
  exact n xs (Option.some.inj e).symm
theorem St2.tabF {C PT : Addr} {H H' : Hp} {st dx wl pl rl tk : Addr} {room entries least : Int} {A : List (Addr × Addr)} {O : List Ob} {kvs : List (Key × V)} {U : List Snap} {n : Nat} (L : St2 C PT H st dx wl pl rl tk room entries least A O kvs U n) {F : List Addr} (f : Fr F H H') (hF : ∀ b ∈ F, b ∈ FF st wl pl rl tk A) : LamX.TabS H' PT qLam :=
  tab_fr L.tab f fun b hb => Or.inr (by obtain ⟨o, e, n1, n2, _⟩ := L.ff b (hF b hb); exact ⟨o, e, n1, n2⟩)
theorem Goes.of {H H' : Hp} {F : List Addr} (f : Fr F H H') : Goes H H' F F := ⟨f.n, fun b hb => Or.inl hb⟩
theorem St2.keep {C PT : Addr} {H H' : Hp} {st dx wl pl rl tk : Addr} {room entries least : Int} {A : List (Addr × Addr)} {O : List Ob} {kvs : List (Key × V)} {U : List Snap} {n : Nat} (L : St2 C PT H st dx wl pl rl tk room entries least A O kvs U n) (f : Fr [] H H') : St2 C PT H' st dx wl pl rl tk room entries least A O kvs U n :=
  ⟨L.S.keep f (by simp), L.G, L.R.mono f, L.D, f _ _ L.hk (by simp), L.nk, L.sz, L.nn, L.len, sn_next (Goes.of (f.mono (by simp))) L.sn (Nat.le_refl _), L.tabF f (by simp)⟩
def Got (C : Addr) (H : Hp) (st dx wl pl : Addr) (room entries : Int) (O : List Ob) (kvs : List (Key × V)) (m x : Int) (z : Nat) (t : Str) : Prop :=
  ((t = TRoom ∨ t = TNone) ∧ ∃ m', StoreAt H C st dx wl pl room entries m' (flat O) kvs ∧ Seen kvs m') ∨
  (t = TNum ∧ StoreAt H C st dx wl pl room entries m (flat O ++ (m :: (z : Int) :: x :: List.replicate z 0)) (putK kvs (.inl m) (.int ((flat O).length : Int))) ∧ Seen kvs m ∧ valV kvs (.inl m) = none)
theorem Got.keep {C : Addr} {H H' : Hp} {st dx wl pl : Addr} {room entries : Int} {O : List Ob} {kvs : List (Key × V)} {m x : Int} {z : Nat} {t : Str} (g : Got C H st dx wl pl room entries O kvs m x z t) (f : Fr [] H H') : Got C H' st dx wl pl room entries O kvs m x z t := by
  rcases g with ⟨h, m', h1, h2⟩ | ⟨h, h1, h2, h3⟩
  · exact Or.inl ⟨h, m', h1.keep f (by simp), h2⟩
  · exact Or.inr ⟨h, h1.keep f (by simp), h2, h3⟩
theorem ok__law_allocated (W : WT P K mg base) : FnOk P w K mg base CX0 5 W.f__law_allocated W.fd__law_allocated ["_law_store", "_law_row", "_law_limits", "_law_kind", "_law_size"] (sp_allocd W.c_Store W.PT_Store_close_up) := by
  refine W.F__law_allocated.ok sc__law_allocated (fun vs H Q E h => ?_) (fun cdv Ar outer s H vs Q E hr h => ?_)
  · obtain ⟨st, dx, wl, pl, rl, tk, room, entries, least, A, O, kvs, U, n, li, x, z, rfl, _⟩ := h
    rfl
  · obtain ⟨st, dx, wl, pl, rl, tk, room, entries, least, A, O, kvs, U, n, li, x, z, rfl, L, hli, hz, hn, hroom, hent, k⟩ := h
    have hu1 := hu_of hr
    have hu64 := hu64_of hr
    have hlen := L.len
    have hfl := flat_len L.sz
    have hkl := L.G.kl
    refine ⟨_, (pss_cons (ps_set (i := 5) sc__law_allocated.nd rfl (by first | exact Or.inl rfl | exact Or.inr rfl) (pe_call (ok__law_free W) (hr.mono (by decide)) rfl W.g__law_free W.F__law_free.kp W.b__law_free .nil pass0 (pa_cons (pv 1) pa_nil)))
      (pss_cons (ps_set (i := 6) sc__law_allocated.nd rfl (by first | exact Or.inl rfl | exact Or.inr rfl) (pe_op op_addU pe_int (pv 4)))
      (pss_cons (ps_set (i := 7) sc__law_allocated.nd rfl (by first | exact Or.inl rfl | exact Or.inr rfl) (pe_tup (pa_cons (pe_strT (show (PySem.Str.ofString "number") = T [110, 117, 109, 98, 101, 114] by decide +kernel)) (pa_cons (pv 5) pa_nil))))
      (Evl.pss_cut (ps_if (pt_cmpR op_gtU (pe_op op_addU (pe_callB call_lenU (by rfl) W.n_len bb_len (pa_cons (pe_call (ok__law_flat W) (hr.mono (by decide)) rfl W.g__law_flat W.F__law_flat.kp W.b__law_flat .nil pass0 (pa_cons (pv 1) pa_nil)) pa_nil)) (pv 6)) (pe_ix (ix_U hu1) (pv 2) pe_int (fun _ _ => rfl)) (by first | exact nomark _ | rfl)) (pss_one (ps_set (i := 7) sc__law_allocated.nd rfl (by first | exact Or.inl rfl | exact Or.inr rfl) (pe_tup (pa_cons (pe_strT (show (PySem.Str.ofString "room") = T [114, 111, 111, 109] by decide +kernel)) (pa_cons (pv 6) pa_nil))))) (pss_one (ps_if (pt_cmpR op_geU (pv 5) (pe_ix (ix_U hu1) (pv 2) pe_int (fun _ _ => rfl)) (by first | exact nomark _ | rfl)) (pss_one (ps_set (i := 7) sc__law_allocated.nd rfl (by first | exact Or.inl rfl | exact Or.inr rfl) (pe_tup (pa_cons (pe_strT (show (PySem.Str.ofString "none") = T [110, 111, 110, 101] by decide +kernel)) (pa_cons (pe_ix (ix_U hu1) (pv 2) pe_int (fun _ _ => rfl)) pa_nil))))) pss_nil)))
      (Evl.pss_cut (ps_tryAs (K := K) (i := 8) rfl rfl rfl sc__law_allocated.nd rfl rfl ⟨rfl, by decide, .inl W.g_SaggarError⟩ takes0N (fun _ pn xe tk _ => (pss_one (ps_set (i := 9) sc__law_allocated.nd rfl (by first | exact Or.inl rfl | exact Or.inr rfl) (pe_tup (pa_cons (pe_strT (show (PySem.Str.ofString "number") = T [110, 117, 109, 98, 101, 114] by decide +kernel)) (pa_cons (pe_methAt (pv 0) W.C_Store W.m_Store_allocate (ok_Store_allocate W) (hr.mono (by decide)) W.b_Store_allocate (fun σ => L2N.passAt tk σ) (pa_cons (pv 3) (pa_cons (pv 4) pa_nil))) pa_nil)))))) (fun a oe cls d pn hz hf => (pss_one (ps_if (pt_truthK (K := K) rfl (pe_callB (call_isPK (K := K) rfl List.mem_cons_self (show PinE cls d oe from ⟨hz, hf⟩)) (by rfl) W.n_isinstance bb_isinstance (pa_cons (pv 8) (pa_cons (pe_gr rfl W.g_NoRoom) pa_nil))) (by intro _; rfl)) (pss_one (ps_set (i := 9) sc__law_allocated.nd rfl (by first | exact Or.inl rfl | exact Or.inr rfl) (pe_tup (pa_cons (pe_strT (show (PySem.Str.ofString "room") = T [114, 111, 111, 109] by decide +kernel)) (pa_cons (pe_xfPK (K := K) rfl List.mem_cons_self (show PinE cls d oe from ⟨hz, hf⟩) (pv 8)) pa_nil))))) (pss_one (ps_if (pt_truthK (K := K) rfl (pe_callB (call_isPK (K := K) rfl List.mem_cons_self (show PinE cls d oe from ⟨hz, hf⟩)) (by rfl) W.n_isinstance bb_isinstance (pa_cons (pv 8) (pa_cons (pe_gr rfl W.g_NoNumber) pa_nil))) (by intro _; rfl)) (pss_one (ps_set (i := 9) sc__law_allocated.nd rfl (by first | exact Or.inl rfl | exact Or.inr rfl) (pe_tup (pa_cons (pe_strT (show (PySem.Str.ofString "none") = T [110, 111, 110, 101] by decide +kernel)) (pa_cons (pe_xfPK (K := K) rfl List.mem_cons_self (show PinE cls d oe from ⟨hz, hf⟩) (pv 8)) pa_nil))))) (pss_one (ps_ret pe_bl))))))))
      (Evl.pss_cut (ps_if (pt_cmpR (op_eqU hu64) (pe_ix (ix_U hu1) (pv 7) pe_int (fun _ _ => rfl)) (pe_strT (show (PySem.Str.ofString "number") = T [110, 117, 109, 98, 101, 114] by decide +kernel)) (by first | exact nomark _ | rfl)) (pss_one (ps_expr (pe_bm PySem.F.plainAttrs_list PySem.F.slot_list_append PySem.F.type_list_append mt_append (pv 1) (pa_cons (pe_lst (pa_cons (pv 5) (pa_cons (pv 3) (pa_cons (pe_op op_mulU (pe_lst (pa_cons pe_int pa_nil)) (pv 4)) (pa_cons pe_bl pa_nil))))) pa_nil)))) pss_nil)
      (pss_one (ps_ret (pe_and (pe_cmpR (op_eqU hu64) (pe_ix (ix_U hu1) (pv 9) pe_int (fun _ _ => rfl)) (pe_ix (ix_U hu1) (pv 7) pe_int (fun _ _ => rfl)) (by first | exact nomark _ | rfl)) (pe_one (pe_call (ok__law_is W) (hr.mono (by decide)) rfl W.g__law_is W.F__law_is.kp W.b__law_is .nil pass0 (pa_cons (pe_ix (ix_U hu1) (pv 9) pe_int (fun _ _ => rfl)) (pa_cons (pe_ix (ix_U hu1) (pv 7) pe_int (fun _ _ => rfl)) pa_nil))))))))))))), ?_⟩
    refine ⟨_, rfl, ?_⟩
    refine ⟨rl, A, O, rfl, L.R, by omega, fun m H1 m0 m1 m2 f1 => ?_⟩
    have L1 := L.keep f1
    have hli1 := f1 _ _ hli (by simp)
    refine ⟨_, rfl, ?_⟩
    refine ⟨_, rfl, ?_⟩
    refine ⟨(by show 2 ≤ sizeLine; decide), fun d0 hd0 => ?_⟩
    have f2 : Fr [] H1 (upd H1 d0 (.tup [.str TNum, .int m])) := Fr.new hd0
    have g2 : upd H1 d0 (.tup [.str TNum, .int m]) d0 = some (.tup [.str TNum, .int m]) := upd_same
    show gName 7 (V.ref d0) _ (upd H1 d0 (.tup [.str TNum, .int m])) _
    generalize upd H1 d0 (.tup [.str TNum, .int m]) = H2 at f2 g2
    have L2 := L1.keep f2
    have hli2 := f2 _ _ hli1 (by simp)
    have f2 := f1.trans f2
    -- what is due
    refine ⟨fun σ H' => ∃ (da : Addr) (t : Str) (v : Int), σ = [some (.ref st), some (.ref rl), some (.ref li), some (.int x), some (.int (z : Int)), some (.int m), some (.int (3 + (z : Int))), some (.ref da), none, none] ∧ H' da = some (.tup [.str t, .int v]) ∧ Due2 room entries m (flat O).length z t v ∧ Fr [] H H', ?_, ?_⟩
    · refine ⟨_, rfl, ?_⟩
      refine ⟨rl, A, O, rfl, L2.R, by omega, fun q H3 hq hF3 f3 => ?_⟩
      refine Or.inl ⟨_, Or.inl (SqL.of hF3), ?_⟩
      rw [List.length_map]
      have f3' := f2.trans f3
      have hli3 := f3 _ _ hli2 (by simp)
      refine ⟨_, rfl, ?_⟩
      refine ⟨_, rfl, Or.inl ⟨_, _, _, rfl, Or.inr (SqT.of hli3), atI_nat (j := 0) rfl, ?_⟩⟩
      refine ⟨_, rfl, ?_⟩
      refine iteD (fun h1 => ?_) (fun h1 => ?_)
      · have h1 : room < ((flat O).length : Int) + (3 + (z : Int)) := h1
        refine ⟨_, rfl, ?_⟩
        refine ⟨(by show 2 ≤ sizeLine; decide), fun d1 hd1 => ?_⟩
        exact ⟨d1, TRoom, _, rfl, upd_same, Or.inl ⟨by omega, rfl, rfl⟩, f3'.trans (Fr.new hd1)⟩
      · have h1 : ¬ room < ((flat O).length : Int) + (3 + (z : Int)) := h1
        refine ⟨_, rfl, _, rfl, Or.inl ⟨_, _, _, rfl, Or.inr (SqT.of hli3), atI_nat (j := 1) rfl, ?_⟩⟩
        refine ⟨_, rfl, ?_⟩
        refine iteD (fun h2 => ?_) (fun h2 => ?_)
        · refine ⟨_, rfl, Or.inl ⟨_, _, _, rfl, Or.inr (SqT.of hli3), atI_nat (j := 1) rfl, ?_⟩⟩
          refine ⟨(by show 2 ≤ sizeLine; decide), fun d1 hd1 => ?_⟩
          exact ⟨d1, TNone, _, rfl, upd_same, Or.inr (Or.inl ⟨by omega, h2, rfl, rfl⟩), f3'.trans (Fr.new hd1)⟩
        · exact ⟨d0, TNum, _, rfl, f3 _ _ g2 (by simp), Or.inr (Or.inr ⟨by omega, h2, rfl, rfl⟩), f3'⟩
    clear f1 f2 g2 L1 L2 hli1 hli2
    rintro σ H3 ⟨da, t, v, rfl, gd, due, f3⟩
    have L3 := L.keep f3
    have o1 : da ∉ [st, wl, pl] := fun h => L3.tup gd (by
      unfold FF
      simp only [List.mem_cons, List.not_mem_nil, or_false] at h ⊢
      rcases h with e | e | e <;> simp [e])
    refine ⟨fun σ H' => ∃ (ta : Addr) (v8 : Option V), σ = [some (.ref st), some (.ref rl), some (.ref li), some (.int x), some (.int (z : Int)), some (.int m), some (.int (3 + (z : Int))), some (.ref da), v8, some (.ref ta)] ∧ H' ta = some (.tup [.str t, .int v]) ∧ H' da = some (.tup [.str t, .int v]) ∧ Fr [st, wl, pl] H H' ∧ Got W.c_Store H' st dx wl pl room entries O kvs m x z t, ?_, ?_⟩
    · have good : ∀ (H4 : Hp) (tg : Addr) (v8 : Option V) (t' : Str) (v' : Int), t' = t → v' = v → Fr [st, wl, pl] H3 H4 → Got W.c_Store H4 st dx wl pl room entries O kvs m x z t → H4 tg = none → ∃ (ta : Addr) (v8' : Option V), [some (.ref st), some (.ref rl), some (.ref li), some (.int x), some (.int (z : Int)), some (.int m), some (.int (3 + (z : Int))), some (.ref da), v8, some (.ref tg)] = [some (V.ref st), some (.ref rl), some (.ref li), some (.int x), some (.int (z : Int)), some (.int m), some (.int (3 + (z : Int))), some (.ref da), v8', some (.ref ta)] ∧ upd H4 tg (.tup [.str t', .int v']) ta = some (.tup [.str t, .int v]) ∧ upd H4 tg (.tup [.str t', .int v']) da = some (.tup [.str t, .int v]) ∧ Fr [st, wl, pl] H (upd H4 tg (.tup [.str t', .int v'])) ∧ Got W.c_Store (upd H4 tg (.tup [.str t', .int v'])) st dx wl pl room entries O kvs m x z t := by
        intro H4 tg v8 t' v' e1 e2 f4 g4 h4
        subst e1 e2
        have f5 : Fr [] H4 (upd H4 tg (.tup [.str t', .int v'])) := Fr.new h4
        exact ⟨tg, v8, rfl, upd_same, f5 _ _ (f4 _ _ gd o1) (by simp), ((f3.mono (by simp)).trans f4).trans (f5.mono (by simp)), g4.keep f5⟩
      refine ⟨_, rfl, st, dx, _, rfl, L3.S.st, rfl, ?_⟩
      refine ⟨_, rfl, _, rfl, ?_⟩
      refine ⟨st, dx, wl, pl, room, entries, least, flat O, kvs, x, z, rfl, L3.S, L.G.seen, (by omega), hent, (by omega), (by omega), fun a1 d hd => ?_, fun a1 m' H4 S4 f4 s4 v4 a2 d hd => ?_, fun a1 m' H4 S4 f4 s4 v4 a2 => ?_⟩
      · have e : t = TRoom ∧ v = 3 + (z : Int) := by
          rcases due with ⟨h1, h2, h3⟩ | ⟨h1, _⟩ | ⟨h1, _⟩
          · exact ⟨h2, h3⟩
          · exact absurd a1 h1
          · exact absurd a1 h1
        obtain ⟨rfl, rfl⟩ := e
        refine ⟨true, W.em_RS, fun _ a ha => ?_, fun z => nomatch z⟩
        have hd' : L2.upd H3 d (.xd [("need", V.int (3 + (z : Int)))]) d = some (.xd [("need", V.int (3 + (z : Int)))]) := upd_same
        have f5 : Fr [] H3 (L2.upd H3 d (.xd [("need", V.int (3 + (z : Int)))])) := Fr.new hd
        generalize L2.upd H3 d (.xd [("need", V.int (3 + (z : Int)))]) = H5 at hd' f5
        refine ⟨_, rfl, ?_⟩
        refine ⟨_, _, _, _, rfl, W.E_NoRoom, rfl, ClsV.own _, W.kb_RR, (fun dd e => by cases e; exact ⟨_, hd'⟩), ?_⟩
        refine ⟨_, rfl, iteT ?_⟩
        refine ⟨_, rfl, rfl, _, d, _, _, rfl, W.E_NoRoom, W.xn_NoRoom_need, rfl, hd', rfl, ?_⟩
        refine ⟨(by show 2 ≤ sizeLine; decide), fun q hq => ?_⟩
        exact good H5 q none TRoom _ rfl rfl (f5.mono (by simp)) (Or.inl ⟨Or.inl rfl, least, L3.S.keep f5 (by simp), L.G.seen⟩) hq
      · have em := L.G.least s4 v4 m0 m1 m2
        subst em
        have e : t = TNone ∧ v = entries := by
          rcases due with ⟨h1, h2, h3⟩ | ⟨h1, h2, h3, h4⟩ | ⟨h1, h2, _⟩
          · exact absurd h1 a1
          · exact ⟨h3, h4⟩
          · exact absurd (by omega) h2
        obtain ⟨rfl, rfl⟩ := e
        refine ⟨true, W.em_NS, fun _ a ha => ?_, fun z => nomatch z⟩
        have hd' : L2.upd H4 d (.xd [("limit", V.int v)]) d = some (.xd [("limit", V.int v)]) := upd_same
        have f5 : Fr [] H4 (L2.upd H4 d (.xd [("limit", V.int v)])) := Fr.new hd
        generalize L2.upd H4 d (.xd [("limit", V.int v)]) = H5 at hd' f5
        refine ⟨_, rfl, ?_⟩
        refine ⟨_, _, _, _, rfl, W.E_NoNumber, rfl, ClsV.own _, W.kb_NR, (fun dd e => by cases e; exact ⟨_, hd'⟩), ?_⟩
        refine ⟨_, rfl, iteF ?_⟩
        refine ⟨_, rfl, ?_⟩
        refine ⟨_, _, _, _, rfl, W.E_NoNumber, rfl, ClsV.own _, W.kb_NN, (fun dd e => by cases e; exact ⟨_, hd'⟩), ?_⟩
        refine ⟨_, rfl, iteT ?_⟩
        refine ⟨_, rfl, rfl, _, d, _, _, rfl, W.E_NoNumber, W.xn_NoNumber_limit, rfl, hd', rfl, ?_⟩
        refine ⟨(by show 2 ≤ sizeLine; decide), fun q hq => ?_⟩
        exact good H5 q none TNone _ rfl rfl ((f4.mono (by simp)).trans (f5.mono (by simp))) (Or.inl ⟨Or.inr rfl, m', S4.keep f5 (by simp), s4⟩) hq
      · have em := L.G.least s4 v4 m0 m1 m2
        subst em
        have e : t = TNum ∧ v = m' := by
          rcases due with ⟨h1, h2, h3⟩ | ⟨h1, h2, h3, h4⟩ | ⟨h1, h2, h3, h4⟩
          · exact absurd h1 a1
          · exact absurd h2 (by omega)
          · exact ⟨h3, h4⟩
        obtain ⟨rfl, rfl⟩ := e
        exact ⟨(by show 2 ≤ sizeLine; decide), fun q hq => good H4 q none TNum _ rfl rfl f4 (Or.inr ⟨rfl, S4, s4, v4⟩) hq⟩
    clear gd f3 L3
    rintro σ H4 ⟨ta, v8, rfl, gt, gd, f4, got⟩
    have d4 := L.D.d4
    have fin : ∀ (H' : Hp) least' A' O' kvs', St2 W.c_Store W.PT_Store_close_up H' st dx wl pl rl tk room entries least' A' O' kvs' U (n + 1) → Goes H H' (FF st wl pl rl tk A) (FF st wl pl rl tk A') → H' ta = some (.tup [.str t, .int v]) → H' da = some (.tup [.str t, .int v]) → True := fun _ _ _ _ _ _ _ _ _ => trivial
    refine ⟨fun σ H' => ∃ least' A' O' kvs', σ = [some (.ref st), some (.ref rl), some (.ref li), some (.int x), some (.int (z : Int)), some (.int m), some (.int (3 + (z : Int))), some (.ref da), v8, some (.ref ta)] ∧ H' ta = some (.tup [.str t, .int v]) ∧ H' da = some (.tup [.str t, .int v]) ∧ St2 W.c_Store W.PT_Store_close_up H' st dx wl pl rl tk room entries least' A' O' kvs' U (n + 1) ∧ Goes H H' (FF st wl pl rl tk A) (FF st wl pl rl tk A'), ?_, ?_⟩
    · refine ⟨_, rfl, Or.inl ⟨_, _, _, rfl, Or.inr (SqT.of gd), atI_nat (j := 0) rfl, ?_⟩⟩
      refine ⟨rfl, _, rfl, ?_⟩
      have t1 : tk ≠ st := ne_of L.hk L.S.st (by intro z; cases z)
      have t2 : tk ≠ pl := ne_of L.hk L.S.pl (by intro z; cases z)
      have x1 : ∀ b ∈ [st, wl, pl], b ∈ FF st wl pl rl tk A := fun b hb => by
        unfold FF
        simp only [List.mem_cons, List.not_mem_nil, or_false] at hb ⊢
        rcases hb with e | e | e <;> simp [e]
      have rl0 : rl ∉ [st, wl, pl] := fun h => d4 (by simp only [List.mem_cons, List.not_mem_nil, or_false] at h ⊢; rcases h with e | e | e <;> simp [e])
      have R4 : RowAt H4 rl A O := L.R.keep f4 rl0 (fun a ha => by
        have := L.D.d5 a ha
        simp only [List.mem_cons, List.not_mem_nil, or_false, not_or] at this ⊢
        exact ⟨⟨this.1.1, this.1.2.1, this.1.2.2.1⟩, ⟨this.2.1, this.2.2.1, this.2.2.2.1⟩⟩)
      have hk4 := f4 _ _ L.hk (by simp [t1, t2, L.nk])
      have T4 := L.tabF f4 x1
      have g4 : Goes H H4 (FF st wl pl rl tk A) (FF st wl pl rl tk A) := Goes.of (f4.mono x1)
      have ne1 : ¬ (V.str TRoom = V.str TNum) := fun e => absurd (T_inj (V.str.inj e)) (by decide)
      have ne2 : ¬ (V.str TNone = V.str TNum) := fun e => absurd (T_inj (V.str.inj e)) (by decide)
      rcases got with ⟨ht, m', S', s'⟩ | ⟨ht, S', s', v'⟩
      · have nt : ¬ (V.str t = V.str TNum) := by rcases ht with rfl | rfl; exact ne1; exact ne2
        refine iteD (fun h => absurd h nt) (fun _ => ?_)
        exact ⟨m', A, O, kvs, rfl, gt, gd, ⟨S', L.G.re s', R4, L.D, hk4, L.nk, L.sz, L.nn, by omega, sn_next g4 L.sn (by omega), T4⟩, g4⟩
      · refine iteD (fun _ => ?_) (fun h => absurd (by rw [ht]) h)
        refine ⟨_, rfl, Or.inl ⟨rfl, _, SqL.of R4.rl⟩, ?_⟩
        refine ⟨_, rfl, _, rfl, ?_⟩
        refine ⟨(by show 1 ≤ sizeLine; decide), fun q1 hq1 => ?_⟩
        refine ⟨_, rfl, ?_⟩
        refine ⟨q1, (z : Int), _, rfl, rfl, upd_same, by omega, by omega, (by show 1 * ((z : Int)).toNat ≤ _; rw [sizeLine_eq]; omega), fun c hc => ?_⟩
        rw [Int.toNat_natCast, rep_int]
        have h5 : Fr [] H4 (upd H4 q1 (.lst [V.int 0])) := Fr.new hq1
        have h6 : Fr [] (upd H4 q1 (.lst [V.int 0])) (upd (upd H4 q1 (.lst [V.int 0])) c (.lst ((List.replicate z (0 : Int)).map V.int))) := Fr.new hc
        have c6 : upd (upd H4 q1 (.lst [V.int 0])) c (.lst ((List.replicate z (0 : Int)).map V.int)) c = some (.lst ((List.replicate z (0 : Int)).map V.int)) := upd_same
        have hc4 := fr_none h5 hc
        generalize upd (upd H4 q1 (.lst [V.int 0])) c (.lst ((List.replicate z (0 : Int)).map V.int)) = H6 at h6 c6
        refine ⟨(by show 4 ≤ sizeLine; decide), fun e he => ?_⟩
        have h6 := h5.trans h6
        have he4 := fr_none h6 he
        have h7 : Fr [] H6 (upd H6 e (.lst [.int m, .int x, .ref c, .bl true])) := Fr.new he
        have e7 : upd H6 e (.lst [.int m, .int x, .ref c, .bl true]) e = some (.lst [.int m, .int x, .ref c, .bl true]) := upd_same
        have c7 := h7 _ _ c6 (by simp)
        have nec : e ≠ c := (ne_of_none c6 he).symm
        generalize upd H6 e (.lst [.int m, .int x, .ref c, .bl true]) = H7 at h7 e7 c7
        have h7 := h6.trans h7
        have eL : e ≠ rl := (ne_of_none R4.rl he4).symm
        have cL : c ≠ rl := (ne_of_none R4.rl hc4).symm
        have R7 := R4.mono h7
        refine ⟨rl, _, _, rfl, rfl, R7.rl, (by rw [List.length_map, L.R.len, sizeLine_eq]; omega), ?_⟩
        have h8 : Fr [rl] H7 (upd H7 rl (.lst (A.map (fun a => V.ref a.1) ++ [V.ref e]))) := Fr.at (by simp)
        have r8 : upd H7 rl (.lst (A.map (fun a => V.ref a.1) ++ [V.ref e])) rl = some (.lst ((A ++ [(e, c)]).map fun a => V.ref a.1)) := by rw [upd_same, List.map_append]; rfl
        have oth : ∀ b ∈ A, (b.1 ≠ e ∧ b.1 ≠ c ∧ b.2 ≠ e ∧ b.2 ≠ c) := fun b hb => by
          obtain ⟨⟨xs, h1⟩, ⟨ys, h2⟩⟩ := R4.has hb
          exact ⟨ne_of_none h1 he4, ne_of_none h1 hc4, ne_of_none h2 he4, ne_of_none h2 hc4⟩
        have e8 := h8 _ _ e7 (by simpa using eL)
        have c8 := h8 _ _ c7 (by simpa using cL)
        have trl : tk ∉ [rl] := fun h => d4 (by have h : tk = rl := by simpa using h
                                                simp [h])
        have tak : ∀ b, b = ta ∨ b = da → H4 b = some (.tup [.str t, .int v]) → b ∉ [rl] := fun b _ hb h => by
          have h : b = rl := by simpa using h
          rw [h, R4.rl] at hb
          cases hb
        generalize upd H7 rl (.lst (A.map (fun a => V.ref a.1) ++ [V.ref e])) = H8 at h8 r8 e8 c8
        have g8 : Goes H H8 (FF st wl pl rl tk A) (FF st wl pl rl tk (A ++ [(e, c)])) := by
          refine ⟨(((f4.mono x1).trans (h7.mono (by simp))).trans (h8.mono (fun b hb => by
            have hb : b = rl := by simpa using hb
            rw [hb]; unfold FF; simp))).n, fun b hb => ?_⟩
          unfold FF at hb ⊢
          unfold ad at hb
          rw [List.flatMap_append] at hb
          simp only [List.mem_cons, List.mem_append] at hb ⊢
          have old : ∀ b, H4 b = none → H b = none := fun b hb4 => by
            cases q : H b with
            | none => rfl
            | some o =>
              exfalso
              by_cases hm : b ∈ [st, wl, pl]
              · simp only [List.mem_cons, List.not_mem_nil, or_false] at hm
                rcases hm with rfl | rfl | rfl
                · rw [S'.st] at hb4; cases hb4
                · rw [S'.wl] at hb4; cases hb4
                · rw [S'.pl] at hb4; cases hb4
              · rw [f4 _ _ q hm] at hb4; cases hb4
          rcases hb with h | h | h | h | h | h | h
          · exact Or.inl (Or.inl h)
          · exact Or.inl (Or.inr (Or.inl h))
          · exact Or.inl (Or.inr (Or.inr (Or.inl h)))
          · exact Or.inl (Or.inr (Or.inr (Or.inr (Or.inl h))))
          · exact Or.inl (Or.inr (Or.inr (Or.inr (Or.inr (Or.inl h)))))
          · exact Or.inl (Or.inr (Or.inr (Or.inr (Or.inr (Or.inr h)))))
          · simp only [List.flatMap_cons, List.flatMap_nil, List.append_nil, List.mem_cons, List.not_mem_nil, or_false] at h
            rcases h with rfl | rfl
            · exact Or.inr (old _ he4)
            · exact Or.inr (old _ hc4)
        refine ⟨m, A ++ [(e, c)], O ++ [⟨m, x, List.replicate z 0, true⟩], _, rfl, h8 _ _ (h7 _ _ gt (by simp)) (tak _ (Or.inl rfl) gt), h8 _ _ (h7 _ _ gd (by simp)) (tak _ (Or.inr rfl) gd), ⟨?_, L.G.add (o := ⟨m, x, List.replicate z 0, true⟩) rfl v' s', R7.snoc r8 (fun b hb d hd u hu => ?_) e8 c8, L.D.snoc nec ⟨eL, cL⟩ ?_ oth, h8 _ _ (h7 _ _ hk4 (by simp)) trl, L.nk, fun o ho => ?_, fun o ho => ?_, ?_, sn_next g8 L.sn (by omega), ?_⟩, g8⟩
        · have e : flat (O ++ [⟨m, x, List.replicate z 0, true⟩]) = flat O ++ (m :: (z : Int) :: x :: List.replicate z 0) := by
            rw [flat_app]
            show flat O ++ (fl _ ++ []) = _
            rw [List.append_nil]
            unfold fl
            rw [List.length_replicate]
          rw [e]
          exact (S'.keep h7 (by simp)).keep h8 (fun b hb h => by
            have h : b = rl := by simpa using h
            rw [h] at hb
            exact rl0 hb)
        · refine h8 _ _ hu ?_
          have d3 := L.D.d3 b hb
          rcases hd with rfl | rfl
          · simpa using d3.1
          · simpa using d3.2
        · have cn : ∀ b, H4 b = none → b ∉ [st, wl, pl, tk] := fun b hb hm => by
            simp only [List.mem_cons, List.not_mem_nil, or_false] at hm
            rcases hm with rfl | rfl | rfl | rfl
            · rw [S'.st] at hb; cases hb
            · rw [S'.wl] at hb; cases hb
            · rw [S'.pl] at hb; cases hb
            · rw [hk4] at hb; cases hb
          exact ⟨cn _ he4, cn _ hc4⟩
        · rcases List.mem_append.mp ho with ho | ho
          · exact L.sz o ho
          · have e : o = ⟨m, x, List.replicate z 0, true⟩ := by simpa using ho
            rw [e]
            show (List.replicate z (0 : Int)).length ≤ 79
            rw [List.length_replicate]; exact hz
        · rcases List.mem_append.mp ho with ho | ho
          · exact L.nn o ho
          · have e : o = ⟨m, x, List.replicate z 0, true⟩ := by simpa using ho
            rw [e]
            exact s'.1
        · rw [List.length_append]; show O.length + 1 ≤ _; omega
        · exact tab_fr (tab_fr T4 h7 (by simp)) h8 (fun b hb => Or.inr (by
            have hb : b = rl := by simpa using hb
            rw [hb]
            exact ⟨_, R7.rl, (by intro ps z; cases z), (by intro ps z; cases z)⟩))
    clear gt gd f4 got
    rintro σ H5 ⟨least', A', O', kvs', rfl, gt, gd, L5, f5⟩
    refine ⟨_, rfl, Or.inl ⟨_, _, _, rfl, Or.inr (SqT.of gt), atI_nat (j := 0) rfl, ?_⟩⟩
    refine ⟨_, rfl, Or.inl ⟨_, _, _, rfl, Or.inr (SqT.of gd), atI_nat (j := 0) rfl, ?_⟩⟩
    refine ⟨rfl, ?_⟩
    refine ⟨_, rfl, ?_⟩
    refine iteD (fun _ => ?_) (fun h => absurd rfl h)
    refine ⟨_, rfl, Or.inl ⟨_, _, _, rfl, Or.inr (SqT.of gt), atI_nat (j := 1) rfl, ?_⟩⟩
    refine ⟨_, rfl, Or.inl ⟨_, _, _, rfl, Or.inr (SqT.of gd), atI_nat (j := 1) rfl, ?_⟩⟩
    refine ⟨v, v, rfl, ?_⟩
    rw [decide_eq_true rfl]
    exact k H5 wl pl least' A' O' kvs' L5 f5
end

end LX
namespace LX
open PySem PySem.Spec PyProof.Rows L2 NdefX
theorem Sep.sub {A A' : List (Addr × Addr)} {rl : Addr} {X : List Addr} (D : Sep A rl X) (s : A'.Sublist A) : Sep A' rl X := by
  have pw : A.Pairwise (fun a b => a.1 ≠ b.1 ∧ a.2 ≠ b.2) := by
    rw [List.pairwise_iff_getElem]
    intro i j hi hj hij
    refine ⟨fun e => ?_, fun e => ?_⟩
    · have := D.d1 i j _ _ (List.getElem?_eq_getElem hi) (List.getElem?_eq_getElem hj) (Or.inl e); omega
    · have := D.d1 i j _ _ (List.getElem?_eq_getElem hi) (List.getElem?_eq_getElem hj) (Or.inr e); omega
  have pw' := List.Pairwise.sublist s pw
  rw [List.pairwise_iff_getElem] at pw'
  refine ⟨fun i j a b ha hb h => ?_, fun a b ha hb => D.d2 a b (s.subset ha) (s.subset hb), fun a ha => D.d3 a (s.subset ha), D.d4, fun a ha => D.d5 a (s.subset ha)⟩
  obtain ⟨hi, ea⟩ := List.getElem?_eq_some_iff.mp ha
  obtain ⟨hj, eb⟩ := List.getElem?_eq_some_iff.mp hb
  rcases Nat.lt_trichotomy i j with q | q | q
  · have := pw' i j hi hj q
    rw [ea, eb] at this
    rcases h with h | h
    · exact absurd h this.1
    · exact absurd h this.2
  · exact q
  · have := pw' j i hj hi q
    rw [ea, eb] at this
    rcases h with h | h
    · exact absurd h.symm this.1
    · exact absurd h.symm this.2
theorem Sep.other {A : List (Addr × Addr)} {rl : Addr} {X Y : List Addr} (D : Sep A rl X) (h1 : rl ∉ Y) (h2 : ∀ a ∈ A, a.1 ∉ Y ∧ a.2 ∉ Y) : Sep A rl Y := ⟨D.d1, D.d2, D.d3, h1, h2⟩
theorem Zl_sub {A : List (Addr × Addr)} {O : List Ob} (h : A.length = O.length) : ((Zl A O).map (·.1)).Sublist A := by
  have := (List.filter_sublist (p := fun z : (Addr × Addr) × Ob => z.2.live) (l := A.zip O)).map (·.1)
  rw [List.map_fst_zip (by omega)] at this
  exact this
theorem row_filter {H' : Hp} {rl : Addr} {A : List (Addr × Addr)} {O : List Ob} (len : A.length = O.length) (it : ∀ (i : Nat) (a : Addr × Addr) (o : Ob), A[i]? = some a → O[i]? = some o → H' a.1 = some (.lst [.int o.num, .int o.kind, .ref a.2, .bl o.live]) ∧ H' a.2 = some (.lst (o.sl.map V.int)))
    (hr : H' rl = some (.lst ((Zl A O).map fun z => V.ref z.1.1))) : RowAt H' rl ((Zl A O).map (·.1)) (O.filter (·.live)) := by
  refine ⟨by rw [hr, List.map_map]; rfl, by rw [← Zl_snd len, List.length_map, List.length_map], fun i a o ha ho => ?_⟩
  rw [← Zl_snd len, List.getElem?_map] at ho
  rw [List.getElem?_map] at ha
  obtain ⟨z, hz, rfl⟩ := Option.map_eq_some_iff.mp ha
  rw [hz] at ho
  cases ho
  obtain ⟨j, h1, h2, _⟩ := Zl_get (List.mem_of_getElem? hz)
  exact it j _ _ h1 h2
section
variable {C PT : Addr} {H H1 H' : Hp} {st dx wl pl rl tk : Addr} {room entries least : Int} {A : List (Addr × Addr)} {O : List Ob} {kvs : List (Key × V)} {U : List Snap} {n : Nat}
theorem ad_sub {A A' : List (Addr × Addr)} (s : ∀ a ∈ A', a ∈ A) {b : Addr} (h : b ∈ ad A') : b ∈ ad A := by
  obtain ⟨a, ha, hb⟩ := List.mem_flatMap.mp h
  exact List.mem_flatMap.mpr ⟨a, s a ha, hb⟩
theorem St2.ne (L : St2 C PT H st dx wl pl rl tk room entries least A O kvs U n) : rl ≠ st ∧ rl ≠ tk ∧ tk ≠ st ∧ tk ≠ pl ∧ (∀ a ∈ A, a.1 ≠ st ∧ a.2 ≠ st ∧ a.1 ≠ tk ∧ a.2 ≠ tk ∧ a.1 ≠ rl ∧ a.2 ≠ rl) := by
  have d4 := L.D.d4
  simp only [List.mem_cons, List.not_mem_nil, or_false, not_or] at d4
  refine ⟨d4.1, d4.2.2.2, ne_of L.hk L.S.st (by intro z; cases z), ne_of L.hk L.S.pl (by intro z; cases z), fun a ha => ?_⟩
  have d5 := L.D.d5 a ha
  have d3 := L.D.d3 a ha
  simp only [List.mem_cons, List.not_mem_nil, or_false, not_or] at d5
  exact ⟨d5.1.1, d5.2.1, d5.1.2.2.2, d5.2.2.2.2, d3.1, d3.2⟩
theorem St2.closed (L : St2 C PT H st dx wl pl rl tk room entries least A O kvs U n) {wl' pl' : Addr} (S1 : StoreAt H1 C st dx wl' pl' room entries least (flat (O.filter (·.live))) (pD (tbl (O.filter (·.live))))) (f : FrN [st] H H1) (w1 : H wl' = none) (p1 : H pl' = none)
    (f2 : Fr [rl] H1 H') (hr : H' rl = some (.lst ((Zl A O).map fun z => V.ref z.1.1))) (T : LamX.TabS H' PT qLam) :
    St2 C PT H' st dx wl' pl' rl tk room entries least ((Zl A O).map (·.1)) (O.filter (·.live)) (pD (tbl (O.filter (·.live)))) U n ∧ Goes H H' (FF st wl pl rl tk A) (FF st wl' pl' rl tk ((Zl A O).map (·.1))) := by
  obtain ⟨n1, n2, n3, n4, n5⟩ := L.ne
  have sub := Zl_sub L.R.len
  have x1 := ne_of_none L.R.rl w1
  have x2 := ne_of_none L.R.rl p1
  have y1 := ne_of_none L.hk w1
  have y2 := ne_of_none L.hk p1
  have g : Goes H H' (FF st wl pl rl tk A) (FF st wl' pl' rl tk ((Zl A O).map (·.1))) := by
    refine ⟨(f.mono (by unfold FF; simp)).trans (f2.mono (by unfold FF; simp)).n, fun b hb => ?_⟩
    unfold FF at hb ⊢
    simp only [List.mem_cons] at hb ⊢
    rcases hb with h | h | h | h | h | h
    · exact Or.inl (Or.inl h)
    · exact Or.inr (by rw [h]; exact w1)
    · exact Or.inr (by rw [h]; exact p1)
    · exact Or.inl (Or.inr (Or.inr (Or.inr (Or.inl h))))
    · exact Or.inl (Or.inr (Or.inr (Or.inr (Or.inr (Or.inl h)))))
    · exact Or.inl (Or.inr (Or.inr (Or.inr (Or.inr (Or.inr (ad_sub (fun a ha => sub.subset ha) h))))))
  refine ⟨⟨S1.keep f2 (fun b hb h => ?_), L.G.close, row_filter L.R.len (fun i a o ha ho => ?_) hr, (L.D.sub sub).other ?_ (fun a ha => ?_), ?_, y1, fun o ho => L.sz o (List.mem_filter.mp ho).1, fun o ho => L.nn o (List.mem_filter.mp ho).1, Nat.le_trans (List.length_filter_le _ _) L.len, sn_next g L.sn (Nat.le_refl _), T⟩, g⟩
  · have h : b = rl := by simpa using h
    rw [h] at hb
    simp only [List.mem_cons, List.not_mem_nil, or_false] at hb
    rcases hb with e | e | e
    · exact n1 e
    · exact x1 e
    · exact x2 e
  · obtain ⟨q1, q2⟩ := L.R.it i a o ha ho
    obtain ⟨m1, m2, _, _, m5, m6⟩ := n5 a (List.mem_of_getElem? ha)
    exact ⟨f2 _ _ (f.lst q1 (by simpa using m1)) (by simpa using m5), f2 _ _ (f.lst q2 (by simpa using m2)) (by simpa using m6)⟩
  · simp [n1, n2, x1, x2]
  · obtain ⟨⟨xs, h1⟩, ⟨ys, h2⟩⟩ := L.R.has (sub.subset ha)
    obtain ⟨m1, m2, m3, m4, _, _⟩ := n5 a (sub.subset ha)
    have := ne_of_none h1 w1
    have := ne_of_none h1 p1
    have := ne_of_none h2 w1
    have := ne_of_none h2 p1
    simp_all
  · exact f2 _ _ (f.lst L.hk (by simpa using n3)) (by simpa using n2.symm)
theorem St2.snapped (L : St2 C PT H st dx wl pl rl tk room entries least A O kvs U n) {t : Snap} (f : Fr [tk] H H') (hk : H' tk = some (.lst ((U ++ [t]).map fun t => V.ref t.p))) (s : SnapAt H' n t) (new : ∀ b ∈ t.all, H b = none) :
    St2 C PT H' st dx wl pl rl tk room entries least A O kvs (U ++ [t]) n ∧ Goes H H' (FF st wl pl rl tk A) (FF st wl pl rl tk A) := by
  obtain ⟨n1, n2, n3, n4, n5⟩ := L.ne
  have g : Goes H H' (FF st wl pl rl tk A) (FF st wl pl rl tk A) := Goes.of (f.mono (by unfold FF; simp))
  refine ⟨⟨L.S.keep f (fun b hb h => ?_), L.G, L.R.keep f (by simpa using n2) (fun a ha => by simp [(n5 a ha).2.2.1, (n5 a ha).2.2.2.1]), L.D, hk, L.nk, L.sz, L.nn, L.len, fun u hu => ?_, L.tabF f (by unfold FF; simp)⟩, g⟩
  · have h : b = tk := by simpa using h
    rw [h] at hb
    simp only [List.mem_cons, List.not_mem_nil, or_false] at hb
    rcases hb with e | e | e
    · exact n3 e
    · exact L.nk e
    · exact n4 e
  · rcases List.mem_append.mp hu with hu | hu
    · exact sn_next g L.sn (Nat.le_refl _) u hu
    · have e : u = t := by simpa using hu
      rw [e]
      refine ⟨s, fun b hb hF => ?_⟩
      obtain ⟨o, ho, _⟩ := L.ff b hF
      rw [new b hb] at ho
      cases ho
theorem St2.restored (L : St2 C PT H st dx wl pl rl tk room entries least A O kvs U n) {t : Snap} (ht : t ∈ U) {wl' pl' q : Addr} {A' : List (Addr × Addr)} {H2 H3 : Hp} (S1 : StoreAt H1 C st dx wl' pl' room entries 0 (flat t.O) t.kvs) (f : Fr [st] H H1) (w1 : H wl' = none) (p1 : H pl' = none)
    (f2 : Fr [rl] H1 H2) (hr2 : H2 rl = some (.lst [])) (N : NewRow H2 H3 q A' t.O) (f3 : Fr [rl] H3 H') (hr : H' rl = some (.lst (A'.map fun a => V.ref a.1))) :
    St2 C PT H' st dx wl' pl' rl tk room entries 0 A' t.O t.kvs U n ∧ Goes H H' (FF st wl pl rl tk A) (FF st wl' pl' rl tk A') := by
  obtain ⟨n1, n2, n3, n4, n5⟩ := L.ne
  have x1 := ne_of_none L.R.rl w1
  have x2 := ne_of_none L.R.rl p1
  have y1 := ne_of_none L.hk w1
  have y2 := ne_of_none L.hk p1
  obtain ⟨s1, s2⟩ := L.sn t ht
  have keep1 : ∀ b, b ∈ [st, wl', pl'] → b ≠ rl := fun b hb h => by
    rw [h] at hb
    simp only [List.mem_cons, List.not_mem_nil, or_false] at hb
    rcases hb with e | e | e
    · exact n1 e
    · exact x1 e
    · exact x2 e
  have S2 := (S1.keep f2 (fun b hb h => keep1 b hb (by simpa using h))).keep N.f (by simp)
  have S3 := S2.keep f3 (fun b hb h => keep1 b hb (by simpa using h))
  have tk2 : H2 tk = some (.lst (U.map fun t => V.ref t.p)) := f2 _ _ (f _ _ L.hk (by simpa using n3)) (by simpa using n2.symm)
  have old2 : ∀ b o, H b = some o → b ≠ st → b ≠ rl → H2 b = some o := fun b o e h1 h2 => f2 _ _ (f _ _ e (by simpa using h1)) (by simpa using h2)
  have isn : ∀ b, H2 b = none → H b = none ∧ b ≠ st ∧ b ≠ wl' ∧ b ≠ pl' ∧ b ≠ tk := fun b hb => by
    have hS := S1.keep f2 (fun b hb h => keep1 b hb (by simpa using h))
    have z1 : b ≠ st := (ne_of_none hS.st hb).symm
    have z2 : b ≠ wl' := (ne_of_none hS.wl hb).symm
    have z3 : b ≠ pl' := (ne_of_none hS.pl hb).symm
    have z4 : b ≠ tk := (ne_of_none tk2 hb).symm
    refine ⟨?_, z1, z2, z3, z4⟩
    cases e : H b with
    | none => rfl
    | some o =>
      exfalso
      have h2 : b ≠ rl := (ne_of_none hr2 hb).symm
      rw [old2 b o e z1 h2] at hb
      cases hb
  have aF : ∀ a ∈ A', (H a.1 = none ∧ a.1 ≠ st ∧ a.1 ≠ wl' ∧ a.1 ≠ pl' ∧ a.1 ≠ tk ∧ a.1 ≠ rl) ∧ (H a.2 = none ∧ a.2 ≠ st ∧ a.2 ≠ wl' ∧ a.2 ≠ pl' ∧ a.2 ≠ tk ∧ a.2 ≠ rl) := fun a ha => by
    obtain ⟨h1, h2⟩ := N.nA a ha
    obtain ⟨b1, b2, b3, b4, b5⟩ := isn _ h1
    obtain ⟨c1, c2, c3, c4, c5⟩ := isn _ h2
    exact ⟨⟨b1, b2, b3, b4, b5, (ne_of_none hr2 h1).symm⟩, ⟨c1, c2, c3, c4, c5, (ne_of_none hr2 h2).symm⟩⟩
  have fA : Fr [st, rl] H H' := (((f.mono (by simp)).trans (f2.mono (by simp))).trans (N.f.mono (by simp))).trans (f3.mono (by simp))
  have g : Goes H H' (FF st wl pl rl tk A) (FF st wl' pl' rl tk A') := by
    refine ⟨(fA.mono (by unfold FF; simp)).n, fun b hb => ?_⟩
    unfold FF at hb ⊢
    simp only [List.mem_cons] at hb ⊢
    rcases hb with h | h | h | h | h | h
    · exact Or.inl (Or.inl h)
    · exact Or.inr (by rw [h]; exact w1)
    · exact Or.inr (by rw [h]; exact p1)
    · exact Or.inl (Or.inr (Or.inr (Or.inr (Or.inl h))))
    · exact Or.inl (Or.inr (Or.inr (Or.inr (Or.inr (Or.inl h)))))
    · obtain ⟨a, ha, hb⟩ := List.mem_flatMap.mp h
      simp only [List.mem_cons, List.not_mem_nil, or_false] at hb
      rcases hb with e | e
      · exact Or.inr (by rw [e]; exact (aF a ha).1.1)
      · exact Or.inr (by rw [e]; exact (aF a ha).2.1)
  refine ⟨⟨S3, s1.G, ⟨hr, N.R.len, fun i a o ha ho => ?_⟩, ⟨N.D.d1, N.D.d2, fun a ha => ⟨(aF a ha).1.2.2.2.2.2, (aF a ha).2.2.2.2.2.2⟩, by simp [n1, n2, x1, x2], fun a ha => ?_⟩, fA _ _ L.hk (by simp [n3, n2.symm]), y1, s1.sz, s1.nn, s1.len, sn_next g L.sn (Nat.le_refl _), L.tabF fA (by unfold FF; simp)⟩, g⟩
  · obtain ⟨q1, q2⟩ := N.R.it i a o ha ho
    have ma := List.mem_of_getElem? ha
    exact ⟨f3 _ _ q1 (by simpa using (aF a ma).1.2.2.2.2.2), f3 _ _ q2 (by simpa using (aF a ma).2.2.2.2.2.2)⟩
  · obtain ⟨⟨_, b2, b3, b4, b5, _⟩, ⟨_, c2, c3, c4, c5, _⟩⟩ := aF a ha
    simp [b2, b3, b4, b5, c2, c3, c4, c5]
theorem St2.next (L : St2 C PT H st dx wl pl rl tk room entries least A O kvs U n) {O' : List Ob} {kvs' : List (Key × V)} {least' : Int} (f : Fr (st :: wl :: pl :: ad A) H H') (S' : StoreAt H' C st dx wl pl room entries least' (flat O') kvs') (G' : Good O' kvs' least') (R' : RowAt H' rl A O')
    (sz : ∀ o ∈ O', o.sl.length ≤ 79) (nn : ∀ o ∈ O', 0 ≤ o.num) (len : O'.length = O.length) : St2 C PT H' st dx wl pl rl tk room entries least' A O' kvs' U n ∧ Goes H H' (FF st wl pl rl tk A) (FF st wl pl rl tk A) := by
  obtain ⟨n1, n2, n3, n4, n5⟩ := L.ne
  have fF : ∀ b ∈ st :: wl :: pl :: ad A, b ∈ FF st wl pl rl tk A := fun b hb => by
    unfold FF
    simp only [List.mem_cons] at hb ⊢
    rcases hb with h | h | h | h
    · exact Or.inl h
    · exact Or.inr (Or.inl h)
    · exact Or.inr (Or.inr (Or.inl h))
    · exact Or.inr (Or.inr (Or.inr (Or.inr (Or.inr h))))
  have g : Goes H H' (FF st wl pl rl tk A) (FF st wl pl rl tk A) := Goes.of (f.mono fF)
  refine ⟨⟨S', G', R', L.D, f _ _ L.hk (fun h => ?_), L.nk, sz, nn, by rw [len]; exact L.len, sn_next g L.sn (Nat.le_refl _), L.tabF f fF⟩, g⟩
  simp only [List.mem_cons] at h
  rcases h with h | h | h | h
  · exact n3 h
  · exact L.nk h
  · exact n4 h
  · obtain ⟨a, ha, hb⟩ := List.mem_flatMap.mp h
    obtain ⟨_, _, m3, m4, _, _⟩ := n5 a ha
    simp only [List.mem_cons, List.not_mem_nil, or_false] at hb
    rcases hb with e | e
    · exact m3 e.symm
    · exact m4 e.symm
theorem mem_set {O : List Ob} {i : Nat} {o' : Ob} {p : Ob → Prop} (h : ∀ x ∈ O, p x) (ho : p o') : ∀ x ∈ O.set i o', p x := fun x hx => by
  rcases List.mem_or_eq_of_mem_set hx with hx | rfl
  · exact h x hx
  · exact ho
theorem pickI {O : List Ob} (y : Int) (h : lvI O O.length ≠ []) : ∃ (i : Nat) (o : Ob), atI (natV (lvI O O.length)) (y % ((lvI O O.length).length : Int)) = some (.int (i : Int)) ∧ O[i]? = some o ∧ o.live = true := by
  have hp : 0 < (lvI O O.length).length := List.length_pos_iff.mpr h
  have e1 := Int.emod_nonneg y (by omega : ((lvI O O.length).length : Int) ≠ 0)
  have e2 := Int.emod_lt_of_pos y (by omega : (0 : Int) < ((lvI O O.length).length : Int))
  generalize y % ((lvI O O.length).length : Int) = d at e1 e2
  have hi : d.toNat < (lvI O O.length).length := by omega
  obtain ⟨_, o, q1, q2⟩ := lvI_mem (List.getElem_mem hi)
  refine ⟨(lvI O O.length)[d.toNat], o, ?_, q1, q2⟩
  have e : ((d.toNat : Nat) : Int) = d := by omega
  have z := atI_nat (xs := natV (lvI O O.length)) (j := d.toNat) (by unfold natV; rw [List.getElem?_map, List.getElem?_eq_getElem hi]; rfl)
  rw [e] at z
  exact z
end

end LX
namespace LX
open PySem PySem.Spec PyProof.Rows L2 NdefX
section
variable {P : Program} {w : World} {K : PySem.W.Frag} {mg : Str → Option Value} {base : Heap}
def sp_changed (C PT : Addr) : Sp := fun vs H Q _ => ∃ st dx wl pl rl tk room entries least A O kvs U n, ∃ dd x : Int, vs = [.ref st, .ref rl, .ref tk, .int dd, .int x] ∧ St2 C PT H st dx wl pl rl tk room entries least A O kvs U n ∧ n ≤ 200 ∧ U.length ≤ 1000 ∧
  ∀ H' wl' pl' least' A' O' kvs' U', St2 C PT H' st dx wl' pl' rl tk room entries least' A' O' kvs' U' n → U'.length ≤ U.length + 1 → Goes H H' (FF st wl pl rl tk A) (FF st wl' pl' rl tk A') → Q .non H'
theorem ok__law_changed (W : WT P K mg base) : FnOk P w K mg base CX0 4 W.f__law_changed W.fd__law_changed ["_law_store", "_law_row", "_law_taken", "_law_deed_here", "_law_x"] (sp_changed W.c_Store W.PT_Store_close_up) := by
  refine W.F__law_changed.ok sc__law_changed (fun vs H Q E h => ?_) (fun cdv Ar outer s H vs Q E hr h => ?_)
  · obtain ⟨st, dx, wl, pl, rl, tk, room, entries, least, A, O, kvs, U, n, dd, x, rfl, _⟩ := h
    rfl
  · obtain ⟨st, dx, wl, pl, rl, tk, room, entries, least, A, O, kvs, U, n, dd, x, rfl, L, hn, hU, k⟩ := h
    have hu1 := hu_of hr
    have hu64 := hu64_of hr
    have hlen := L.len
    have hfl := flat_len L.sz
    have hkl := L.G.kl
    obtain ⟨n1, n2, n3, n4, n5⟩ := L.ne
    refine ⟨_, (pss_cons (ps_set (i := 5) sc__law_changed.nd rfl (by first | exact Or.inl rfl | exact Or.inr rfl) (pe_op op_fdivW (pv 4) pe_int))
      (Evl.pss_cut (ps_if (pt_cmpR (op_eqU hu64) (pv 3) pe_int (by first | exact nomark _ | rfl)) (pss_cons (ps_expr (pe_meth0 (pv 0) W.C_Store W.m_Store_close_up (ok_Store_close_up W) (hr.mono (by decide)) W.b_Store_close_up .nil pass0 ))
      (pss_cons (ps_setLc (i := 6) (own := [("_law_one", 7)]) (g := gName 7)  rfl sc__law_changed.nd rfl rfl (sw_true rfl rfl rfl (by decide +kernel)) (pi_list (pv 1)) (blkOk_by (N := N__law_changed) (sc := defScope s__law_changed) (by decide +kernel)) (fun _ _ _ _ _ => (pg_name (i := 7) sc__law_changed.nd rfl (by first | exact Or.inl rfl | exact Or.inr rfl))) (fun _ _ _ _ _ => pts_one (pt_truthK (K := K) rfl (pe_ix (ix_UK (K := K) rfl (by exact hu1)) (pv 7) pe_int (fun _ _ => rfl)) (by intro _; rfl))) (fun _ _ _ _ _ => (pv 7)))
      (pss_cons (ps_expr (pe_bm0 PySem.F.plainAttrs_list PySem.F.slot_list_clear PySem.F.type_list_clear mt_clear (pv 1) ))
      (pss_one (ps_expr (pe_bm PySem.F.plainAttrs_list PySem.F.slot_list_extend PySem.F.type_list_extend mt_extend (pv 1) (pa_cons (pv 6) pa_nil))))))) (pss_one (ps_if (pt_cmpR (op_eqU hu64) (pv 3) pe_int (by first | exact nomark _ | rfl)) (pss_one (ps_expr (pe_bm PySem.F.plainAttrs_list PySem.F.slot_list_append PySem.F.type_list_append mt_append (pv 2) (pa_cons (pe_tup (pa_cons (pe_meth0 (pv 0) W.C_Store W.m_Store_snapshot (ok_Store_snapshot W) (hr.mono (by decide)) W.b_Store_snapshot .nil pass0 ) (pa_cons (pe_call (ok__law_copy W) (hr.mono (by decide)) rfl W.g__law_copy W.F__law_copy.kp W.b__law_copy .nil pass0 (pa_cons (pv 1) pa_nil)) pa_nil))) pa_nil)))) (pss_one (ps_if (PW.pt (pw_and (pt_cmpR (op_eqU hu64) (pv 3) pe_int (by first | exact nomark _ | rfl)) (pw_and1 (pt_truth (pv 2) (by intro _; rfl))))) (pss_cons (ps_set (i := 8) sc__law_changed.nd rfl (by first | exact Or.inl rfl | exact Or.inr rfl) (pe_ix (ix_U hu1) (pv 2) (pe_op op_mod (pe_callTy call_intU (by rfl) W.n_int bb_int (pa_cons (pv 5) pa_nil)) (pe_callB call_lenU (by rfl) W.n_len bb_len (pa_cons (pv 2) pa_nil))) (fun _ _ => rfl)))
      (pss_cons (ps_expr (pe_meth (pv 0) W.C_Store W.m_Store_restore (ok_Store_restore W) (hr.mono (by decide)) W.b_Store_restore .nil pass0 (pa_cons (pe_ix (ix_U hu1) (pv 8) pe_int (fun _ _ => rfl)) pa_nil)))
      (pss_cons (ps_expr (pe_bm0 PySem.F.plainAttrs_list PySem.F.slot_list_clear PySem.F.type_list_clear mt_clear (pv 1) ))
      (pss_one (ps_expr (pe_bm PySem.F.plainAttrs_list PySem.F.slot_list_extend PySem.F.type_list_extend mt_extend (pv 1) (pa_cons (pe_call (ok__law_copy W) (hr.mono (by decide)) rfl W.g__law_copy W.F__law_copy.kp W.b__law_copy .nil pass0 (pa_cons (pe_ix (ix_U hu1) (pv 8) pe_int (fun _ _ => rfl)) pa_nil)) pa_nil))))))) pss_nil)))))
      (pss_cons (ps_set (i := 9) sc__law_changed.nd rfl (by first | exact Or.inl rfl | exact Or.inr rfl) (pe_call (ok__law_living W) (hr.mono (by decide)) rfl W.g__law_living W.F__law_living.kp W.b__law_living .nil pass0 (pa_cons (pv 1) pa_nil)))
      (pss_cons (ps_if (PW.pt (pw_or (pt_cmpR op_ltU (pv 3) pe_int (by first | exact nomark _ | rfl)) (pw_or1 (pt_not (pt_truth (pv 9) (by intro _; rfl)))))) (pss_one ps_retN) pss_nil)
      (pss_cons (ps_set (i := 7) sc__law_changed.nd rfl (by first | exact Or.inl rfl | exact Or.inr rfl) (pe_ix (ix_U hu1) (pv 1) (pe_ix (ix_U hu1) (pv 9) (pe_op op_mod (pe_callTy call_intU (by rfl) W.n_int bb_int (pa_cons (pv 5) pa_nil)) (pe_callB call_lenU (by rfl) W.n_len bb_len (pa_cons (pv 9) pa_nil))) (fun _ _ => rfl)) (fun _ _ => rfl)))
      (pss_cons (ps_set (i := 10) sc__law_changed.nd rfl (by first | exact Or.inl rfl | exact Or.inr rfl) (pe_ix (ix_U hu1) (pv 1) (pe_ix (ix_U hu1) (pv 9) (pe_op op_mod (pe_op op_fdivW (pv 5) pe_int) (pe_callB call_lenU (by rfl) W.n_len bb_len (pa_cons (pv 9) pa_nil))) (fun _ _ => rfl)) (fun _ _ => rfl)))
      (pss_one (ps_if (pt_cmpR op_ltU (pv 3) pe_int (by first | exact nomark _ | rfl)) (pss_one (ps_if (pt_truth (pe_ix (ix_U hu1) (pv 7) pe_int (fun _ _ => rfl)) (by intro _; rfl)) (pss_cons (ps_set (i := 11) sc__law_changed.nd rfl (by first | exact Or.inl rfl | exact Or.inr rfl) (pe_op op_mod (pe_op op_fdivW (pv 5) pe_int) (pe_callB call_lenU (by rfl) W.n_len bb_len (pa_cons (pe_ix (ix_U hu1) (pv 7) pe_int (fun _ _ => rfl)) pa_nil))))
      (pss_cons (ps_asg (pe_call (ok__law_word W) (hr.mono (by decide)) rfl W.g__law_word W.F__law_word.kp W.b__law_word .nil pass0 (pa_cons (pe_op op_fdivW (pv 5) pe_int) pa_nil)) (pg_sub (pe_ix (ix_U hu1) (pv 7) pe_int (fun _ _ => rfl)) (pv 11) set_list))
      (pss_one (ps_expr (pe_meth (pv 0) W.C_Store W.m_Store_put (ok_Store_put W) (hr.mono (by decide)) W.b_Store_put .nil pass0 (pa_cons (pe_ix (ix_U hu1) (pv 7) pe_int (fun _ _ => rfl)) (pa_cons (pv 11) (pa_cons (pe_ix (ix_U hu1) (pe_ix (ix_U hu1) (pv 7) pe_int (fun _ _ => rfl)) (pv 11) (fun _ _ => rfl)) pa_nil)))))))) pss_nil)) (pss_one (ps_if (pt_cmpR (op_eqU hu64) (pv 3) pe_int (by first | exact nomark _ | rfl)) (pss_cons (ps_asg (pe_call (ok__law_word W) (hr.mono (by decide)) rfl W.g__law_word W.F__law_word.kp W.b__law_word .nil pass0 (pa_cons (pe_op op_fdivW (pv 5) pe_int) pa_nil)) (pg_sub (pv 7) pe_int set_list))
      (pss_one (ps_expr (pe_meth (pv 0) W.C_Store W.m_Store_set_kind (ok_Store_set_kind W) (hr.mono (by decide)) W.b_Store_set_kind .nil pass0 (pa_cons (pe_ix (ix_U hu1) (pv 7) pe_int (fun _ _ => rfl)) (pa_cons (pe_ix (ix_U hu1) (pv 7) pe_int (fun _ _ => rfl)) pa_nil)))))) (pss_one (ps_if (pt_cmpR op_ltU (pv 3) pe_int (by first | exact nomark _ | rfl)) (pss_cons (ps_asg pe_bl (pg_sub (pv 7) pe_int set_list))
      (pss_one (ps_expr (pe_meth (pv 0) W.C_Store W.m_Store_drop (ok_Store_drop W) (hr.mono (by decide)) W.b_Store_drop .nil pass0 (pa_cons (pe_ix (ix_U hu1) (pv 7) pe_int (fun _ _ => rfl)) pa_nil))))) (pss_cons (ps_expr (pe_meth (pv 0) W.C_Store W.m_Store_exchange (ok_Store_exchange W) (hr.mono (by decide)) W.b_Store_exchange .nil pass0 (pa_cons (pe_ix (ix_U hu1) (pv 7) pe_int (fun _ _ => rfl)) (pa_cons (pe_ix (ix_U hu1) (pv 10) pe_int (fun _ _ => rfl)) pa_nil))))
      (pss_cons (ps_set (i := 12) sc__law_changed.nd rfl (by first | exact Or.inl rfl | exact Or.inr rfl) (pe_ix (ix_U hu1) (pv 7) pe_int (fun _ _ => rfl)))
      (pss_cons (ps_asg (pe_ix (ix_U hu1) (pv 10) pe_int (fun _ _ => rfl)) (pg_sub (pv 7) pe_int set_list))
      (pss_one (ps_asg (pv 12) (pg_sub (pv 10) pe_int set_list)))))))))))))))))), ?_⟩
    refine ⟨_, rfl, _, _, rfl, rfl, ⟨by decide, by decide⟩, ?_⟩
    refine ⟨fun σ H' => ∃ wl' pl' least' A' O' kvs' U', ∃ v6 v7 v8 : Option V, σ = [some (.ref st), some (.ref rl), some (.ref tk), some (.int dd), some (.int x), some (.int (x / 16)), v6, v7, v8, none, none, none, none] ∧ St2 W.c_Store W.PT_Store_close_up H' st dx wl' pl' rl tk room entries least' A' O' kvs' U' n ∧ U'.length ≤ U.length + 1 ∧ Goes H H' (FF st wl pl rl tk A) (FF st wl' pl' rl tk A'), ?_, ?_⟩
    · refine ⟨_, rfl, rfl, _, rfl, ?_⟩
      refine ite_eq (I_dec _ _) (iteD (fun _ => ?_) (fun _ => ?_))
      · -- close_up
        refine ⟨_, rfl, st, dx, _, rfl, L.S.st, rfl, ?_⟩
        refine ⟨st, dx, wl, pl, room, entries, least, kvs, O, rfl, L.S, L.G, by omega, by omega, L.tab, fun H1 wl' pl' S1 T1 f1 w1 p1 => ?_⟩
        have R1 := L.R.keepN f1 (by simpa using n1) (fun a ha => by simp [(n5 a ha).1, (n5 a ha).2.1])
        refine ⟨_, rfl, rl, rfl, ⟨_, SqL.of R1.rl⟩, fun q hq => ?_⟩
        have hz : (A.zip O).length = A.length := by rw [List.length_zip, L.R.len]; omega
        refine lc_list (K := K) (a := rl) (xs := A.map fun a => V.ref a.1) (fun i H' => H' = upd H1 q (.lst ((((A.zip O).take i).filter (·.2.live)).map fun z => V.ref z.1.1))) rfl (fun i H' _ e => ?_) (fun i x H' hx e => ?_) (fun H' e => ?_)
        · subst e
          exact SqL.of (by rw [upd_ne (ne_of_none R1.rl hq)]; exact R1.rl)
        · subst e
          rw [List.getElem?_map] at hx
          obtain ⟨a, ha, rfl⟩ := Option.map_eq_some_iff.mp hx
          have hi : i < O.length := by rw [← L.R.len]; exact (List.getElem?_eq_some_iff.mp ha).1
          have ho := List.getElem?_eq_getElem hi
          obtain ⟨q1, q2⟩ := R1.it i a _ ha ho
          have q1' := Fr.new (F := []) (o := .lst ((((A.zip O).take i).filter (·.2.live)).map fun z => V.ref z.1.1)) hq a.1 _ q1 (by simp)
          have hzi : (A.zip O)[i]? = some (a, O[i]) := List.getElem?_zip_eq_some.mpr ⟨ha, ho⟩
          refine ⟨rfl, ?_⟩
          refine ⟨_, rfl, Or.inl ⟨_, _, _, rfl, Or.inl (SqL.of q1'), rfl, ?_⟩⟩
          refine ⟨_, rfl, ?_⟩
          cases hv : O[i].live with
          | true =>
            refine iteT ?_
            refine ⟨_, rfl, _, upd_same, ?_, ?_⟩
            · rw [List.length_map, sizeLine_eq]
              have := List.length_filter_le (fun z : (Addr × Addr) × Ob => z.2.live) ((A.zip O).take i)
              rw [List.length_take] at this
              omega
            · rw [upd_upd, take_filter_yes hzi hv, List.map_append]; rfl
          | false =>
            refine iteF ?_
            rw [take_filter_no hzi hv]
        subst e
        rw [List.length_map, ← hz, List.take_length]
        have f2 : Fr [] H1 (upd H1 q (.lst (((A.zip O).filter (·.2.live)).map fun z => V.ref z.1.1))) := Fr.new hq
        have q2 : upd H1 q (.lst (((A.zip O).filter (·.2.live)).map fun z => V.ref z.1.1)) q = some (.lst ((Zl A O).map fun z => V.ref z.1.1)) := upd_same
        have nqr : q ≠ rl := (ne_of_none R1.rl hq).symm
        show gName 6 (V.ref q) _ (upd H1 q (.lst (((A.zip O).filter (·.2.live)).map fun z => V.ref z.1.1))) _
        generalize upd H1 q (.lst (((A.zip O).filter (·.2.live)).map fun z => V.ref z.1.1)) = H2 at f2 q2
        have R2 := R1.mono f2
        have S2 := S1.keep f2 (by simp)
        refine ⟨_, rfl, Or.inl ⟨rfl, _, SqL.of R2.rl⟩, ?_⟩
        refine ⟨rl, _, rfl, rfl, R2.rl, ?_⟩
        refine ⟨_, rfl, Or.inl ⟨rfl, _, SqL.of upd_same⟩, ?_⟩
        refine ⟨_, rfl, ?_⟩
        refine ⟨rl, q, _, _, rfl, rfl, upd_same, (by rw [upd_ne nqr]; exact q2), (by
          rw [List.length_nil, List.length_map, sizeLine_eq]
          have := List.length_filter_le (fun z : (Addr × Addr) × Ob => z.2.live) (A.zip O)
          have h2 := L.R.len
          unfold Zl
          omega), ?_⟩
        rw [upd_upd, List.nil_append]
        have f3 : Fr [rl] H2 (upd H2 rl (.lst ((Zl A O).map fun z => V.ref z.1.1))) := Fr.at (by simp)
        obtain ⟨L', g⟩ := L.closed S1 f1 w1 p1 ((f2.mono (by simp)).trans f3) upd_same (tab_fr (tab_fr T1 f2 (by simp)) f3 (fun b hb => Or.inr (by
          have hb : b = rl := by simpa using hb
          rw [hb]
          exact ⟨_, R2.rl, (by intro ps z; cases z), (by intro ps z; cases z)⟩)))
        exact ⟨_, _, _, _, _, _, _, _, _, _, rfl, L', by omega, g⟩
      refine ⟨_, rfl, rfl, _, rfl, ?_⟩
      refine ite_eq (I_dec _ _) (iteD (fun _ => ?_) (fun _ => ?_))
      · -- snapshot
        refine ⟨_, rfl, Or.inl ⟨rfl, _, SqL.of L.hk⟩, ?_⟩
        refine ⟨_, rfl, st, dx, _, rfl, L.S.st, rfl, ?_⟩
        refine ⟨st, dx, wl, pl, room, entries, least, flat O, kvs, rfl, L.S, fun H1 s w' d hs hw hd f1 s0 w0 d0 => ?_⟩
        have L1 := L.keep f1
        refine ⟨_, rfl, ?_⟩
        refine ⟨rl, A, O, rfl, L1.R, by omega, fun r A' H2 N => ?_⟩
        refine ⟨(by show 2 ≤ sizeLine; decide), fun p hp => ?_⟩
        have f3 : Fr [] H2 (upd H2 p (.tup [.ref s, .ref r])) := Fr.new hp
        have p3 : upd H2 p (.tup [.ref s, .ref r]) p = some (.tup [.ref s, .ref r]) := upd_same
        have hp1 := fr_none N.f hp
        generalize upd H2 p (.tup [.ref s, .ref r]) = H3 at f3 p3
        have f13 := (f1.trans N.f).trans f3
        have f23 := N.f.trans f3
        refine ⟨tk, _, _, rfl, rfl, f13 _ _ L.hk (by simp), (by rw [List.length_map, sizeLine_eq]; omega), ?_⟩
        have f4 : Fr [tk] H3 (upd H3 tk (.lst (U.map (fun t => V.ref t.p) ++ [.ref p]))) := Fr.at (by simp)
        have al : ∀ b ∈ Snap.all ⟨p, s, w', d, r, A', O, kvs⟩, H b = none := fun b hb => by
          unfold Snap.all at hb
          simp only [List.mem_cons] at hb
          rcases hb with rfl | rfl | rfl | rfl | rfl | h
          · exact fr_none f1 hp1
          · exact s0
          · exact w0
          · exact d0
          · exact fr_none f1 N.q
          · obtain ⟨a, ha, hb⟩ := List.mem_flatMap.mp h
            simp only [List.mem_cons, List.not_mem_nil, or_false] at hb
            rcases hb with rfl | rfl
            · exact fr_none f1 (N.nA a ha).1
            · exact fr_none f1 (N.nA a ha).2
        have nt : ∀ b ∈ Snap.all ⟨p, s, w', d, r, A', O, kvs⟩, b ∉ [tk] := fun b hb h => by
          have h : b = tk := by simpa using h
          have := al b hb
          rw [h, L.hk] at this
          cases this
        have sn3 : SnapAt H3 n ⟨p, s, w', d, r, A', O, kvs⟩ := ⟨p3, f23 _ _ hs (by simp), f23 _ _ hw (by simp), f23 _ _ hd (by simp), N.R.mono f3, L.G.re seen0, L.sz, L.nn, L.len⟩
        obtain ⟨L', g⟩ := L.snapped (t := ⟨p, s, w', d, r, A', O, kvs⟩) ((f13.mono (by simp)).trans f4) (by rw [upd_same, List.map_append]; rfl) (sn3.keep f4.n nt (Nat.le_refl _)) al
        exact ⟨_, _, _, _, _, _, _, _, _, _, rfl, L', by rw [List.length_append]; show U.length + 1 ≤ _; omega, g⟩
      refine ⟨_, rfl, rfl, _, rfl, ?_⟩
      refine ite_eq (I_dec _ _) (iteD (fun _ => ?_) (fun _ => ?_))
      · refine ⟨_, rfl, _, Or.inl ⟨_, SqL.of L.hk, rfl⟩, ?_⟩
        by_cases hU0 : U = []
        · subst hU0
          exact iteF ⟨_, _, _, _, _, _, _, _, _, _, rfl, L, by omega, Goes.of Fr.rfl'⟩
        have u0 : 0 < U.length := List.length_pos_iff.mpr hU0
        rw [show (U.map fun t => V.ref t.p).isEmpty = false by cases U with
          | nil => exact absurd rfl hU0
          | cons a r => rfl]
        refine iteT ?_
        have m1 := Int.emod_nonneg (x / 16) (by omega : (U.length : Int) ≠ 0)
        have m2 := Int.emod_lt_of_pos (x / 16) (by omega : (0 : Int) < U.length)
        obtain ⟨j, hj⟩ : ∃ j : Nat, (x / 16) % (U.length : Int) = j := ⟨((x / 16) % (U.length : Int)).toNat, by omega⟩
        obtain ⟨t, ht⟩ : ∃ t, U[j]? = some t := ⟨U[j]'(by omega), List.getElem?_eq_getElem (by omega)⟩
        have mt := List.mem_of_getElem? ht
        obtain ⟨s1, s2⟩ := L.sn t mt
        have tl := s1.len
        refine ⟨_, rfl, _, rfl, _, rfl, Or.inl ⟨_, Or.inl (SqL.of L.hk), ?_⟩⟩
        rw [List.length_map]
        refine ⟨_, _, rfl, rfl, (by omega), ?_⟩
        refine Or.inl ⟨_, _, _, rfl, Or.inl (SqL.of L.hk), (by rw [hj]; exact atI_nat (j := j) (by rw [List.getElem?_map, ht]; rfl)), ?_⟩
        refine ⟨_, rfl, st, dx, _, rfl, L.S.st, rfl, ?_⟩
        refine ⟨_, rfl, Or.inl ⟨_, _, _, rfl, Or.inr (SqT.of s1.p), atI_nat (j := 0) rfl, ?_⟩⟩
        refine ⟨st, dx, wl, pl, room, entries, least, flat O, kvs, t.s, t.w, t.d, flat t.O, t.kvs, rfl, L.S, s1.s, s1.w, s1.d, fun H1 wl' pl' S1 f1 w1 p1 => ?_⟩
        have r1 := f1 _ _ L.R.rl (by simpa using n1)
        refine ⟨_, rfl, Or.inl ⟨rfl, _, SqL.of r1⟩, ?_⟩
        refine ⟨rl, _, rfl, rfl, r1, ?_⟩
        have f2 : Fr [rl] H1 (upd H1 rl (.lst [])) := Fr.at (by simp)
        have r2 : upd H1 rl (.lst []) rl = some (.lst []) := upd_same
        generalize upd H1 rl (.lst []) = H2 at f2 r2
        have sn2 : SnapAt H2 n t := s1.keep (F := FF st wl pl rl tk A) ((f1.mono (by unfold FF; simp)).trans (f2.mono (by unfold FF; simp))).n s2 (Nat.le_refl _)
        refine ⟨_, rfl, Or.inl ⟨rfl, _, SqL.of r2⟩, ?_⟩
        refine ⟨_, rfl, Or.inl ⟨_, _, _, rfl, Or.inr (SqT.of sn2.p), atI_nat (j := 1) rfl, ?_⟩⟩
        refine ⟨t.r, t.A, t.O, rfl, sn2.R, by omega, fun q A' H3 N => ?_⟩
        refine ⟨rl, q, _, _, rfl, rfl, N.f _ _ r2 (by simp), N.R.rl, (by
          rw [List.length_nil, List.length_map, N.R.len, sizeLine_eq]; omega), ?_⟩
        rw [List.nil_append]
        obtain ⟨L', g⟩ := L.restored mt S1 f1 w1 p1 f2 r2 N (Fr.at (by simp)) (upd_same (o := .lst (A'.map fun a => V.ref a.1)))
        exact ⟨_, _, _, _, _, _, _, _, _, _, rfl, L', by omega, g⟩
      · exact ⟨_, _, _, _, _, _, _, _, _, _, rfl, L, by omega, Goes.of Fr.rfl'⟩
    clear hlen hfl hkl n1 n2 n3 n4 n5
    rintro σ H1 ⟨wl1, pl1, least1, A1, O1, kvs1, U1, v6, v7, v8, rfl, L1, hU1, g1⟩
    obtain ⟨n1, n2, n3, n4, n5⟩ := L1.ne
    have hlen := L1.len
    have hkl := L1.G.kl
    have hlv := lvI_len O1 O1.length
    refine ⟨_, rfl, ?_⟩
    refine ⟨rl, A1, O1, rfl, L1.R, by omega, fun q hq => ?_⟩
    have f2 : Fr [] H1 (upd H1 q (.lst (natV (lvI O1 O1.length)))) := Fr.new hq
    have q2 : upd H1 q (.lst (natV (lvI O1 O1.length))) q = some (.lst (natV (lvI O1 O1.length))) := upd_same
    have LL := L1.keep f2
    have g2 : Goes H (upd H1 q (.lst (natV (lvI O1 O1.length)))) (FF st wl pl rl tk A) (FF st wl1 pl1 rl tk A1) := ⟨g1.f.trans (f2.mono (by simp)).n, g1.n⟩
    show gName 9 (V.ref q) _ (upd H1 q (.lst (natV (lvI O1 O1.length)))) _
    generalize upd H1 q (.lst (natV (lvI O1 O1.length))) = H2 at q2 LL g2
    have done := k H2 wl1 pl1 least1 A1 O1 kvs1 U1 LL hU1 g2
    refine ⟨_, rfl, ?_⟩
    refine ⟨_, rfl, ?_⟩
    refine iteD (fun _ => done) (fun h7 => ?_)
    refine ⟨_, rfl, _, Or.inl ⟨_, SqL.of q2, rfl⟩, ?_⟩
    by_cases hE : lvI O1 O1.length = []
    · rw [show (natV (lvI O1 O1.length)).isEmpty = true by rw [hE]; rfl]
      exact iteT done
    rw [show (natV (lvI O1 O1.length)).isEmpty = false by
      unfold natV
      cases e : lvI O1 O1.length with
      | nil => exact absurd e hE
      | cons a r => rfl]
    refine iteF ?_
    have l0 : 0 < (lvI O1 O1.length).length := List.length_pos_iff.mpr hE
    have nl : (natV (lvI O1 O1.length)).length = (lvI O1 O1.length).length := by unfold natV; rw [List.length_map]
    obtain ⟨i, o, ai, ho, lo⟩ := pickI (x / 16) hE
    obtain ⟨j, p, aj, hp, lp⟩ := pickI (x / 16 / 16) hE
    obtain ⟨a, ha, qa1, qa2⟩ := LL.R.get ho
    obtain ⟨b, hb, qb1, qb2⟩ := LL.R.get hp
    refine ⟨_, rfl, _, rfl, _, rfl, _, rfl, Or.inl ⟨_, Or.inl (SqL.of q2), ?_⟩⟩
    rw [nl]
    refine ⟨_, _, rfl, rfl, (by omega), ?_⟩
    refine Or.inl ⟨_, _, _, rfl, Or.inl (SqL.of q2), ai, ?_⟩
    refine Or.inl ⟨_, _, _, rfl, Or.inl (SqL.of LL.R.rl), atI_nat (j := i) (by rw [List.getElem?_map, ha]; rfl), ?_⟩
    refine ⟨_, rfl, _, rfl, _, rfl, _, _, rfl, rfl, ⟨by decide, by decide⟩, ?_⟩
    refine ⟨_, rfl, Or.inl ⟨_, Or.inl (SqL.of q2), ?_⟩⟩
    rw [nl]
    refine ⟨_, _, rfl, rfl, (by omega), ?_⟩
    refine Or.inl ⟨_, _, _, rfl, Or.inl (SqL.of q2), aj, ?_⟩
    refine Or.inl ⟨_, _, _, rfl, Or.inl (SqL.of LL.R.rl), atI_nat (j := j) (by rw [List.getElem?_map, hb]; rfl), ?_⟩
    have ma := List.mem_of_getElem? ha
    have mb := List.mem_of_getElem? hb
    have mo := List.mem_of_getElem? ho
    have mp := List.mem_of_getElem? hp
    have d5a := LL.D.d5 a ma
    have d5b := LL.D.d5 b mb
    have d2a := LL.D.d2 a a ma ma
    simp only [List.mem_cons, List.not_mem_nil, or_false, not_or] at d5a d5b
    have nst : st ≠ wl1 := ne_of LL.S.st LL.S.wl (by intro z; cases z)
    have npl : pl1 ≠ wl1 := ne_of LL.S.pl LL.S.wl (by intro z; cases z)
    have nsp : st ≠ pl1 := ne_of LL.S.st LL.S.pl (by intro z; cases z)
    have sA := (ad_mem ma)
    have sB := (ad_mem mb)
    have fin : ∀ {H4 : Hp} {O' : List Ob} {kvs' : List (Key × V)} {least' : Int}, Fr (st :: wl1 :: pl1 :: ad A1) H2 H4 → StoreAt H4 W.c_Store st dx wl1 pl1 room entries least' (flat O') kvs' → Good O' kvs' least' → RowAt H4 rl A1 O' → (∀ o ∈ O', o.sl.length ≤ 79) → (∀ o ∈ O', 0 ≤ o.num) → O'.length = O1.length → Q .non H4 := fun f S' G' R' z1 z2 z3 => by
      obtain ⟨L', g⟩ := LL.next f S' G' R' z1 z2 z3
      exact k _ _ _ _ _ _ _ _ L' hU1 ⟨fun c e h n t => g.f c e (g2.f c e h n t) (fun m => by
        rcases g2.n c m with q | q
        · exact n q
        · rw [h] at q; cases q) t, g2.n⟩
    refine ⟨_, rfl, ?_⟩
    refine ⟨_, rfl, ?_⟩
    refine iteD (fun _ => ?_) (fun _ => ?_)
    · -- put
      refine ⟨_, rfl, Or.inl ⟨_, _, _, rfl, Or.inl (SqL.of qa1), rfl, ?_⟩⟩
      refine ⟨_, Or.inl ⟨_, SqL.of qa2, rfl⟩, ?_⟩
      by_cases hs : o.sl = []
      · rw [hs]
        exact iteF done
      rw [show (o.sl.map V.int).isEmpty = false by cases e : o.sl with
        | nil => exact absurd e hs
        | cons a r => rfl]
      refine iteT ?_
      have s0 : 0 < o.sl.length := List.length_pos_iff.mpr hs
      refine ⟨_, rfl, _, _, rfl, rfl, ⟨by decide, by decide⟩, ?_⟩
      refine ⟨_, rfl, Or.inl ⟨_, _, _, rfl, Or.inl (SqL.of qa1), rfl, ?_⟩⟩
      refine Or.inl ⟨_, Or.inl (SqL.of qa2), ?_⟩
      rw [List.length_map]
      refine ⟨_, _, rfl, rfl, (by omega), ?_⟩
      have m1 := Int.emod_nonneg (x / 16 / 256) (by omega : (o.sl.length : Int) ≠ 0)
      have m2 := Int.emod_lt_of_pos (x / 16 / 256) (by omega : (0 : Int) < o.sl.length)
      obtain ⟨m, hm⟩ : ∃ m : Nat, (x / 16 / 256) % (o.sl.length : Int) = m := ⟨((x / 16 / 256) % (o.sl.length : Int)).toNat, by omega⟩
      show gName 11 (V.int (x / 16 / 256 % (o.sl.length : Int))) _ H2 _
      rw [hm]
      refine ⟨_, rfl, _, _, rfl, rfl, ⟨by decide, by decide⟩, ?_⟩
      refine ⟨_, rfl, fun x2 => ?_⟩
      refine ⟨_, rfl, Or.inl ⟨_, _, _, rfl, Or.inl (SqL.of qa1), rfl, ?_⟩⟩
      refine ⟨_, rfl, a.2, _, _, m, rfl, rfl, qa2, ixN_nat (by rw [List.length_map]; omega), ?_⟩
      rw [set_int]
      have f6 : Fr [a.2] H2 (upd H2 a.2 (.lst ((o.sl.set m x2).map V.int))) := Fr.at (by simp)
      have q3 : upd H2 a.2 (.lst ((o.sl.set m x2).map V.int)) a.2 = some (.lst ((o.sl.set m x2).map V.int)) := upd_same
      have S5 := LL.S.keep f6 (fun c hc h => by
        have h : c = a.2 := by simpa using h
        rw [h] at hc
        simp only [List.mem_cons, List.not_mem_nil, or_false] at hc
        rcases hc with e | e | e
        · exact d5a.2.1 e
        · exact d5a.2.2.1 e
        · exact d5a.2.2.2.1 e)
      have q1' := f6 _ _ qa1 (by simpa using d2a)
      generalize upd H2 a.2 (.lst ((o.sl.set m x2).map V.int)) = H5 at f6 S5 q3 q1'
      refine ⟨_, rfl, st, dx, _, rfl, S5.st, rfl, ?_⟩
      refine ⟨_, rfl, Or.inl ⟨_, _, _, rfl, Or.inl (SqL.of q1'), rfl, ?_⟩⟩
      refine ⟨_, rfl, ?_⟩
      refine ⟨_, rfl, Or.inl ⟨_, _, _, rfl, Or.inl (SqL.of q1'), rfl, ?_⟩⟩
      have hx2 : (o.sl.set m x2)[m]? = some x2 := by rw [List.getElem?_set]; simp; omega
      refine ⟨_, rfl, Or.inl ⟨_, _, _, rfl, Or.inl (SqL.of q3), atI_nat (int_at hx2), ?_⟩⟩
      refine ⟨st, dx, wl1, pl1, _, _, least1, _, kvs1, o.num, off O1 i, m, x2, rfl, S5, LL.G.at ho lo, by have := off_lt ho; omega, ?_⟩
      have f7 : Fr [wl1] H5 (upd H5 wl1 (.lst (((flat O1).set (off O1 i + 3 + m) x2).map V.int))) := Fr.at (by simp)
      have S6 : StoreAt (upd H5 wl1 (.lst (((flat O1).set (off O1 i + 3 + m) x2).map V.int))) W.c_Store st dx wl1 pl1 room entries least1 (flat (O1.set i { o with sl := o.sl.set m x2 })) kvs1 := ⟨f7 _ _ S5.st (by simpa using nst), by rw [← set_slot x2 ho (by omega)]; exact upd_same, f7 _ _ S5.pl (by simpa using npl)⟩
      have f8 : Fr [a.2, wl1] H2 (upd H5 wl1 (.lst (((flat O1).set (off O1 i + 3 + m) x2).map V.int))) := (f6.mono (by simp)).trans (f7.mono (by simp))
      refine fin (f8.mono fun c hc => ?_) S6 (LL.G.same ho rfl rfl (by rw [List.length_set])) (LL.R.setSl LL.D ha ho rfl rfl rfl (f7 _ _ q3 (by simpa using d5a.2.2.1)) (f8.mono (by simp))) (mem_set LL.sz (by show (o.sl.set m x2).length ≤ 79; rw [List.length_set]; exact LL.sz o mo)) (mem_set LL.nn (LL.nn o mo)) (by rw [List.length_set])
      simp only [List.mem_cons, List.not_mem_nil, or_false] at hc ⊢
      rcases hc with e | e
      · rw [e]; exact Or.inr (Or.inr (Or.inr sA.2))
      · exact Or.inr (Or.inl e)
    refine ⟨_, rfl, rfl, _, rfl, ?_⟩
    refine ite_eq (I_dec _ _) (iteD (fun _ => ?_) (fun _ => ?_))
    · -- set_kind
      refine ⟨_, rfl, _, _, rfl, rfl, ⟨by decide, by decide⟩, ?_⟩
      refine ⟨_, rfl, fun x1 => ?_⟩
      refine ⟨_, rfl, a.1, _, _, 1, rfl, rfl, qa1, rfl, ?_⟩
      have e3 : L2.upd H2 a.1 (.lst ([V.int o.num, .int o.kind, .ref a.2, .bl o.live].set 1 (.int x1))) = upd H2 a.1 (.lst [V.int o.num, .int x1, .ref a.2, .bl o.live]) := rfl
      rw [e3]
      have f3 : Fr [a.1] H2 (upd H2 a.1 (.lst [V.int o.num, .int x1, .ref a.2, .bl o.live])) := Fr.at (by simp)
      have q3 : upd H2 a.1 (.lst [V.int o.num, .int x1, .ref a.2, .bl o.live]) a.1 = some (.lst [V.int o.num, .int x1, .ref a.2, .bl o.live]) := upd_same
      have S3 := LL.S.keep f3 (fun c hc h => by
        have h : c = a.1 := by simpa using h
        rw [h] at hc
        simp only [List.mem_cons, List.not_mem_nil, or_false] at hc
        rcases hc with e | e | e
        · exact d5a.1.1 e
        · exact d5a.1.2.1 e
        · exact d5a.1.2.2.1 e)
      generalize upd H2 a.1 (.lst [V.int o.num, .int x1, .ref a.2, .bl o.live]) = H3 at f3 S3 q3
      refine ⟨_, rfl, st, dx, _, rfl, S3.st, rfl, ?_⟩
      refine ⟨_, rfl, Or.inl ⟨_, _, _, rfl, Or.inl (SqL.of q3), rfl, ?_⟩⟩
      refine ⟨_, rfl, Or.inl ⟨_, _, _, rfl, Or.inl (SqL.of q3), rfl, ?_⟩⟩
      refine ⟨st, dx, wl1, pl1, _, _, least1, _, kvs1, o.num, off O1 i, x1, rfl, S3, LL.G.at ho lo, by have := off_lt ho; omega, ?_⟩
      have f7 : Fr [wl1] H3 (upd H3 wl1 (.lst (((flat O1).set (off O1 i + 2) x1).map V.int))) := Fr.at (by simp)
      have S6 : StoreAt (upd H3 wl1 (.lst (((flat O1).set (off O1 i + 2) x1).map V.int))) W.c_Store st dx wl1 pl1 room entries least1 (flat (O1.set i { o with kind := x1 })) kvs1 := ⟨f7 _ _ S3.st (by simpa using nst), by rw [← set_kind x1 ho]; exact upd_same, f7 _ _ S3.pl (by simpa using npl)⟩
      have f8 : Fr [a.1, wl1] H2 (upd H3 wl1 (.lst (((flat O1).set (off O1 i + 2) x1).map V.int))) := (f3.mono (by simp)).trans (f7.mono (by simp))
      refine fin (f8.mono fun c hc => ?_) S6 (LL.G.same ho rfl rfl rfl) (LL.R.setItem LL.D (o' := { o with kind := x1 }) ha ho rfl (f7 _ _ q3 (by simpa using d5a.1.2.1)) (f8.mono (by simp))) (mem_set LL.sz (LL.sz o mo)) (mem_set LL.nn (LL.nn o mo)) (by rw [List.length_set])
      simp only [List.mem_cons, List.not_mem_nil, or_false] at hc ⊢
      rcases hc with e | e
      · rw [e]; exact Or.inr (Or.inr (Or.inr sA.1))
      · exact Or.inr (Or.inl e)
    refine ⟨_, rfl, ?_⟩
    refine ⟨_, rfl, ?_⟩
    refine iteD (fun _ => ?_) (fun _ => ?_)
    · -- drop
      refine ⟨_, rfl, a.1, _, _, 3, rfl, rfl, qa1, rfl, ?_⟩
      have e3 : L2.upd H2 a.1 (.lst ([V.int o.num, .int o.kind, .ref a.2, .bl o.live].set 3 (.bl false))) = upd H2 a.1 (.lst [V.int o.num, .int o.kind, .ref a.2, .bl false]) := rfl
      rw [e3]
      have f3 : Fr [a.1] H2 (upd H2 a.1 (.lst [V.int o.num, .int o.kind, .ref a.2, .bl false])) := Fr.at (by simp)
      have q3 : upd H2 a.1 (.lst [V.int o.num, .int o.kind, .ref a.2, .bl false]) a.1 = some (.lst [V.int o.num, .int o.kind, .ref a.2, .bl false]) := upd_same
      have S3 := LL.S.keep f3 (fun c hc h => by
        have h : c = a.1 := by simpa using h
        rw [h] at hc
        simp only [List.mem_cons, List.not_mem_nil, or_false] at hc
        rcases hc with e | e | e
        · exact d5a.1.1 e
        · exact d5a.1.2.1 e
        · exact d5a.1.2.2.1 e)
      generalize upd H2 a.1 (.lst [V.int o.num, .int o.kind, .ref a.2, .bl false]) = H3 at f3 S3 q3
      refine ⟨_, rfl, st, dx, _, rfl, S3.st, rfl, ?_⟩
      refine ⟨_, rfl, Or.inl ⟨_, _, _, rfl, Or.inl (SqL.of q3), rfl, ?_⟩⟩
      refine ⟨st, dx, wl1, pl1, _, _, least1, _, kvs1, o.num, rfl, S3, by rw [LL.G.at ho lo]; rfl, fun H4 S4 k4 => ?_⟩
      have f4 : Fr [st, pl1] H3 H4 := Fr.of k4 (by simp) (by simp)
      have q4 := f4 _ _ q3 (by simp [d5a.1.1, d5a.1.2.2.1])
      rw [← flat_kill ho false] at S4
      have f8 : Fr [a.1, st, pl1] H2 H4 := (f3.mono (by simp)).trans (f4.mono (by simp))
      refine fin (f8.mono fun c hc => ?_) S4 (LL.G.kill ho lo (LL.nn o mo)) (LL.R.setItem LL.D (o' := { o with live := false }) ha ho rfl q4 (f8.mono (by simp))) (mem_set LL.sz (LL.sz o mo)) (mem_set LL.nn (LL.nn o mo)) (by rw [List.length_set])
      simp only [List.mem_cons, List.not_mem_nil, or_false] at hc ⊢
      rcases hc with e | e | e
      · rw [e]; exact Or.inr (Or.inr (Or.inr sA.1))
      · exact Or.inl e
      · exact Or.inr (Or.inr (Or.inl e))
    · -- exchange
      refine ⟨_, rfl, st, dx, _, rfl, LL.S.st, rfl, ?_⟩
      refine ⟨_, rfl, Or.inl ⟨_, _, _, rfl, Or.inl (SqL.of qa1), rfl, ?_⟩⟩
      refine ⟨_, rfl, Or.inl ⟨_, _, _, rfl, Or.inl (SqL.of qb1), rfl, ?_⟩⟩
      refine ⟨st, dx, wl1, pl1, _, _, least1, _, kvs1, o.num, p.num, off O1 i, off O1 j, rfl, LL.S, LL.G.at ho lo, LL.G.at hp lp, by have := off_lt ho; omega, by have := off_lt hp; omega, by rw [sizeLine_eq]; omega, fun H3 S3 k3 => ?_⟩
      have f3 : Fr [wl1, pl1] H2 H3 := Fr.of k3 (by simp) (by simp)
      have q1' := f3 _ _ qa1 (by simp [d5a.1.2.1, d5a.1.2.2.1])
      have r1' := f3 _ _ qb1 (by simp [d5b.1.2.1, d5b.1.2.2.1])
      refine ⟨_, rfl, Or.inl ⟨_, _, _, rfl, Or.inl (SqL.of q1'), rfl, ?_⟩⟩
      refine ⟨_, rfl, Or.inl ⟨_, _, _, rfl, Or.inl (SqL.of r1'), rfl, ?_⟩⟩
      refine ⟨_, rfl, a.1, _, _, 0, rfl, rfl, q1', rfl, ?_⟩
      have f4 : Fr (a.1 :: [st, wl1, pl1, tk]) H2 (upd H3 a.1 (.lst [V.int p.num, .int o.kind, .ref a.2, .bl o.live])) := (f3.mono (by simp)).trans (Fr.at (by simp))
      have R3 := LL.R.setItem LL.D (o' := { o with num := p.num }) ha ho rfl upd_same f4
      have e3 : L2.upd H3 a.1 (.lst ([V.int o.num, .int o.kind, .ref a.2, .bl o.live].set 0 (.int p.num))) = upd H3 a.1 (.lst [V.int p.num, .int o.kind, .ref a.2, .bl o.live]) := rfl
      rw [e3]
      generalize e4 : upd H3 a.1 (.lst [V.int p.num, .int o.kind, .ref a.2, .bl o.live]) = H4 at f4 R3
      have hj : (O1.set i { o with num := p.num })[j]? = some (if j = i then { o with num := p.num } else p) := by
        rw [set_get ho]
        split
        · rfl
        · exact hp
      obtain ⟨t1, t2⟩ := R3.it j b _ hb hj
      refine ⟨_, rfl, _, rfl, b.1, _, _, 0, rfl, rfl, t1, rfl, ?_⟩
      have hx : ∀ c : Ob, c = (if j = i then { o with num := p.num } else p) → [V.int c.num, .int c.kind, .ref b.2, .bl c.live].set 0 (.int o.num) = [V.int o.num, .int p.kind, .ref b.2, .bl p.live] := fun c hc => by
        subst hc
        by_cases e : j = i
        · subst e; rw [ho] at hp; cases hp; rw [if_pos rfl]; rfl
        · rw [if_neg e]; rfl
      rw [hx _ rfl]
      have f5 : Fr (b.1 :: [st, wl1, pl1, tk]) H4 (upd H4 b.1 (.lst [V.int o.num, .int p.kind, .ref b.2, .bl p.live])) := Fr.at (by simp)
      have R4 := R3.setItem LL.D (o' := { p with num := o.num }) hb hj (by
        by_cases e : j = i
        · subst e; rw [ho] at hp; cases hp; rw [if_pos rfl]
        · rw [if_neg e]) upd_same f5
      have f6 : Fr [a.1, b.1] H3 (upd H4 b.1 (.lst [V.int o.num, .int p.kind, .ref b.2, .bl p.live])) := by
        refine Fr.trans (H1 := H4) ?_ (Fr.at (by simp))
        rw [← e4]
        exact Fr.at (by simp)
      have S5 := S3.keep f6 (fun c hc h => by
        simp only [List.mem_cons, List.not_mem_nil, or_false] at h hc
        rcases h with h | h
        · rw [h] at hc
          rcases hc with e | e | e
          · exact d5a.1.1 e
          · exact d5a.1.2.1 e
          · exact d5a.1.2.2.1 e
        · rw [h] at hc
          rcases hc with e | e | e
          · exact d5b.1.1 e
          · exact d5b.1.2.1 e
          · exact d5b.1.2.2.1 e)
      rw [swap_flat ho hp] at S5
      have f8 : Fr [wl1, pl1, a.1, b.1] H2 (upd H4 b.1 (.lst [V.int o.num, .int p.kind, .ref b.2, .bl p.live])) := (f3.mono (by simp)).trans (f6.mono (by simp))
      have mm : ∀ x ∈ swapO O1 i j o p, x ∈ O1 ∨ x = { o with num := p.num } ∨ x = { p with num := o.num } := fun x hx => by
        rcases List.mem_or_eq_of_mem_set hx with hx | rfl
        · rcases List.mem_or_eq_of_mem_set hx with hx | rfl
          · exact Or.inl hx
          · exact Or.inr (Or.inl rfl)
        · exact Or.inr (Or.inr rfl)
      refine fin (f8.mono fun c hc => ?_) S5 (LL.G.swap ho hp lo lp) R4 (fun x hx => ?_) (fun x hx => ?_) (by unfold swapO; rw [List.length_set, List.length_set])
      · simp only [List.mem_cons, List.not_mem_nil, or_false] at hc ⊢
        rcases hc with e | e | e | e
        · exact Or.inr (Or.inl e)
        · exact Or.inr (Or.inr (Or.inl e))
        · rw [e]; exact Or.inr (Or.inr (Or.inr sA.1))
        · rw [e]; exact Or.inr (Or.inr (Or.inr sB.1))
      · rcases mm x hx with hx | rfl | rfl
        · exact LL.sz x hx
        · exact LL.sz o mo
        · exact LL.sz p mp
      · rcases mm x hx with hx | rfl | rfl
        · exact LL.nn x hx
        · exact LL.nn p mp
        · exact LL.nn o mo
end

end LX
namespace LX
open PySem PySem.Spec PyProof.Rows L2 NdefX
theorem lvI_nums {O : List Ob} : ∀ n, n ≤ O.length → (lvI O n).map (fun i => match O[i]? with
    | some o => o.num
    | none => 0) = liveN (O.take n)
  | 0, _ => rfl
  | n + 1, h => by
    have ho := List.getElem?_eq_getElem (by omega : n < O.length)
    have ih := lvI_nums (O := O) n (by omega)
    rw [lvI_succ ho, List.map_append, ih]
    unfold liveN
    cases hv : O[n].live with
    | true =>
      rw [take_filter_yes ho hv, List.map_append, if_pos rfl]
      congr 1
      show [match O[n]? with
        | some o => o.num
        | none => 0] = [O[n].num]
      rw [ho]
    | false =>
      rw [take_filter_no ho hv, if_neg (by decide)]
      simp
section
variable {P : Program} {w : World} {K : PySem.W.Frag} {mg : Str → Option Value} {base : Heap}
theorem St2.seen {C PT : Addr} {H H' : Hp} {st dx wl pl rl tk : Addr} {room entries least m : Int} {A : List (Addr × Addr)} {O : List Ob} {kvs : List (Key × V)} {U : List Snap} {n : Nat} (L : St2 C PT H st dx wl pl rl tk room entries least A O kvs U n) (S' : StoreAt H' C st dx wl pl room entries m (flat O) kvs) (s : Seen kvs m) (f : Fr [st] H H') :
    St2 C PT H' st dx wl pl rl tk room entries m A O kvs U n := by
  obtain ⟨n1, n2, n3, n4, n5⟩ := L.ne
  exact (L.next (f.mono (by simp)) S' (L.G.re s) (L.R.keep f (by simpa using n1) (fun a ha => by simp [(n5 a ha).1, (n5 a ha).2.1])) L.sz L.nn rfl).1
def sp_agrees (C PT : Addr) : Sp := fun vs H Q _ => ∃ st dx wl pl rl tk room entries least A O kvs U n, ∃ x : Int, vs = [.ref st, .ref rl, .int entries, .int x] ∧ St2 C PT H st dx wl pl rl tk room entries least A O kvs U n ∧ n ≤ 300 ∧ StrOk (.int entries) ∧
  ∀ H' least', St2 C PT H' st dx wl pl rl tk room entries least' A O kvs U n → Fr [st] H H' → Q (.bl true) H'
theorem ok__law_agrees (W : WT P K mg base) : FnOk P w K mg base CX0 4 W.f__law_agrees W.fd__law_agrees ["_law_store", "_law_row", "_law_entries", "_law_x"] (sp_agrees W.c_Store W.PT_Store_close_up) := by
  refine W.F__law_agrees.ok sc__law_agrees (fun vs H Q E h => ?_) (fun cdv Ar outer s H vs Q E hr h => ?_)
  · obtain ⟨st, dx, wl, pl, rl, tk, room, entries, least, A, O, kvs, U, n, x, rfl, _⟩ := h
    rfl
  · obtain ⟨st, dx, wl, pl, rl, tk, room, entries, least, A, O, kvs, U, n, x, rfl, L, hn, hent, k⟩ := h
    have hu1 := hu_of hr
    have hu64 := hu64_of hr
    have hlen := L.len
    have hfl := flat_len L.sz
    have hkl := L.G.kl
    obtain ⟨n1, n2, n3, n4, n5⟩ := L.ne
    have hlv := lvI_len O O.length
    refine ⟨_, (pss_cons (ps_set (i := 4) sc__law_agrees.nd rfl (by first | exact Or.inl rfl | exact Or.inr rfl) (pe_call (ok__law_flat W) (hr.mono (by decide)) rfl W.g__law_flat W.F__law_flat.kp W.b__law_flat .nil pass0 (pa_cons (pv 1) pa_nil)))
      (pss_cons (ps_set (i := 5) sc__law_agrees.nd rfl (by first | exact Or.inl rfl | exact Or.inr rfl) (pe_call (ok__law_living W) (hr.mono (by decide)) rfl W.g__law_living W.F__law_living.kp W.b__law_living .nil pass0 (pa_cons (pv 1) pa_nil)))
      (pss_cons (ps_if (PW.pt (pw_or (pt_not (pt_truth (pe_call (ok__law_same W) (hr.mono (by decide)) rfl W.g__law_same W.F__law_same.kp W.b__law_same .nil pass0 (pa_cons (pe_fld (pv 0) rfl) (pa_cons (pv 4) pa_nil))) (by intro _; rfl))) (pw_or1 (pt_not (pt_truth (pe_call (ok__law_is W) (hr.mono (by decide)) rfl W.g__law_is W.F__law_is.kp W.b__law_is .nil pass0 (pa_cons (pe_meth0 (pv 0) W.C_Store W.m_Store_used (ok_Store_used W) (hr.mono (by decide)) W.b_Store_used .nil pass0 ) (pa_cons (pe_callB call_lenU (by rfl) W.n_len bb_len (pa_cons (pv 4) pa_nil)) pa_nil))) (by intro _; rfl)))))) (pss_one (ps_ret pe_bl)) pss_nil)
      (pss_cons (ps_if (pt_not (pt_truth (pe_call (ok__law_same W) (hr.mono (by decide)) rfl W.g__law_same W.F__law_same.kp W.b__law_same .nil pass0 (pa_cons (pe_meth0 (pv 0) W.C_Store W.m_Store_numbers (ok_Store_numbers W) (hr.mono (by decide)) W.b_Store_numbers .nil pass0 ) (pa_cons (pe_callB (call_sortedU rfl) (by rfl) W.n_sorted bb_sorted (pa_cons (pe_lc (own := [("_law_k", 6)]) (g := gName 6) (tt := tYes) rfl sc__law_agrees.nd (pi_list (pv 5)) (blkOk_by (N := N__law_agrees) (sc := defScope s__law_agrees) (by decide +kernel)) (fun _ _ _ _ _ => (pg_name (i := 6) sc__law_agrees.nd rfl (by first | exact Or.inl rfl | exact Or.inr rfl))) (fun _ _ _ _ _ => pts_nil) (fun _ _ _ _ _ => (pe_ix (ix_UK (K := K) rfl (by exact hu1)) (pe_ix (ix_UK (K := K) rfl (by exact hu1)) (pv 1) (pv 6) (fun _ _ => rfl)) pe_int (fun _ _ => rfl)))) pa_nil)) pa_nil))) (by intro _; rfl))) (pss_one (ps_ret pe_bl)) pss_nil)
      (pss_cons (ps_set (i := 7) sc__law_agrees.nd rfl (by first | exact Or.inl rfl | exact Or.inr rfl) (pe_call (ok__law_free W) (hr.mono (by decide)) rfl W.g__law_free W.F__law_free.kp W.b__law_free .nil pass0 (pa_cons (pv 1) pa_nil)))
      (pss_cons (ps_if (pt_cmpR op_isnotU (pe_meth (pv 0) W.C_Store W.m_Store_exists (ok_Store_exists W) (hr.mono (by decide)) W.b_Store_exists .nil pass0 (pa_cons (pv 7) pa_nil)) pe_bl (by first | exact nomark _ | rfl)) (pss_one (ps_ret pe_bl)) pss_nil)
      (Evl.pss_cut (ps_tryAs (K := K) (i := 8) rfl rfl rfl sc__law_agrees.nd rfl rfl ⟨rfl, by decide, .inl W.g_NoNumber⟩ takes0N (fun _ pn xe tk _ => (pss_one (ps_if (PW.pt (pw_or (pt_not (pt_truthK (K := K) rfl (pe_call (ok__law_is W) (hr.mono (by decide)) rfl W.g__law_is W.F__law_is.kp W.b__law_is .nil pass0 (pa_cons (pe_methAt0 (pv 0) W.C_Store W.m_Store_free_number (ok_Store_free_number W) (hr.mono (by decide)) W.b_Store_free_number (fun σ => L2N.passAt tk σ) ) (pa_cons (pv 7) pa_nil))) (by intro _; rfl))) (pw_or1 (pt_cmpR op_geU (pv 7) (pv 2) (by first | exact nomark _ | rfl))))) (pss_one (ps_ret pe_bl)) pss_nil))) (fun a oe cls d pn hz hf => (pss_one (ps_if (PW.pt (pw_or (pt_not (pt_truthK (K := K) rfl (pe_callHP (E := fun _ => E0) (okH__law_is W) ((roomS hr).mono (by decide)) (suite_hot (show PinE cls d oe from ⟨hz, hf⟩)) (show PinE cls d oe from ⟨hz, hf⟩) List.mem_cons_self rfl W.g__law_is W.F__law_is.kp W.b__law_is pass0At (pa_cons (pe_xfPK (K := K) rfl List.mem_cons_self (show PinE cls d oe from ⟨hz, hf⟩) (pv 8)) (pa_cons (pv 2) pa_nil))) (by intro _; rfl))) (pw_or1 (pt_cmpR op_ltU (pv 7) (pv 2) (by first | exact nomark _ | rfl))))) (pss_one (ps_ret pe_bl)) pss_nil))))
      (pss_cons (ps_if (pt_not (pt_truth (pv 5) (by intro _; rfl))) (pss_one (ps_ret pe_bl)) pss_nil)
      (pss_cons (ps_set (i := 9) sc__law_agrees.nd rfl (by first | exact Or.inl rfl | exact Or.inr rfl) (pe_ix (ix_U hu1) (pv 1) (pe_ix (ix_U hu1) (pv 5) (pe_op op_mod (pe_callTy call_intU (by rfl) W.n_int bb_int (pa_cons (pv 3) pa_nil)) (pe_callB call_lenU (by rfl) W.n_len bb_len (pa_cons (pv 5) pa_nil))) (fun _ _ => rfl)) (fun _ _ => rfl)))
      (pss_cons (ps_set (i := 10) sc__law_agrees.nd rfl (by first | exact Or.inl rfl | exact Or.inr rfl) (pe_ix (ix_U hu1) (pv 9) pe_int (fun _ _ => rfl)))
      (pss_cons (ps_if (PW.pt (pw_or (pt_cmpR op_isnotU (pe_meth (pv 0) W.C_Store W.m_Store_exists (ok_Store_exists W) (hr.mono (by decide)) W.b_Store_exists .nil pass0 (pa_cons (pv 10) pa_nil)) pe_bl (by first | exact nomark _ | rfl)) (pw_or1 (pt_not (pt_truth (pe_call (ok__law_is W) (hr.mono (by decide)) rfl W.g__law_is W.F__law_is.kp W.b__law_is .nil pass0 (pa_cons (pe_meth (pv 0) W.C_Store W.m_Store_kind (ok_Store_kind W) (hr.mono (by decide)) W.b_Store_kind .nil pass0 (pa_cons (pv 10) pa_nil)) (pa_cons (pe_ix (ix_U hu1) (pv 9) pe_int (fun _ _ => rfl)) pa_nil))) (by intro _; rfl)))))) (pss_one (ps_ret pe_bl)) pss_nil)
      (pss_cons (ps_setLc (i := 11) (own := [("_law_at", 12)]) (g := gName 12) (tt := tYes) rfl sc__law_agrees.nd rfl rfl (sw_true rfl rfl rfl (by decide +kernel)) (pi_range1 (by rfl) W.n_range (pa_cons (pe_callB call_lenU (by rfl) W.n_len bb_len (pa_cons (pe_ix (ix_U hu1) (pv 9) pe_int (fun _ _ => rfl)) pa_nil)) pa_nil)) (blkOk_by (N := N__law_agrees) (sc := defScope s__law_agrees) (by decide +kernel)) (fun _ _ _ _ _ => (pg_name (i := 12) sc__law_agrees.nd rfl (by first | exact Or.inl rfl | exact Or.inr rfl))) (fun _ _ _ _ _ => pts_nil) (fun _ _ _ _ _ => (pe_meth (pv 0) W.C_Store W.m_Store_get (ok_Store_get W) (hr.mono (by decide)) W.b_Store_get .nil pass0 (pa_cons (pv 10) (pa_cons (pv 12) pa_nil)))))
      (pss_one (ps_ret (pe_and (pe_call (ok__law_same W) (hr.mono (by decide)) rfl W.g__law_same W.F__law_same.kp W.b__law_same .nil pass0 (pa_cons (pv 11) (pa_cons (pe_ix (ix_U hu1) (pv 9) pe_int (fun _ _ => rfl)) pa_nil))) (pe_and (pe_call (ok__law_same W) (hr.mono (by decide)) rfl W.g__law_same W.F__law_same.kp W.b__law_same .nil pass0 (pa_cons (pe_meth (pv 0) W.C_Store W.m_Store_slots (ok_Store_slots W) (hr.mono (by decide)) W.b_Store_slots .nil pass0 (pa_cons (pv 10) pa_nil)) (pa_cons (pe_ix (ix_U hu1) (pv 9) pe_int (fun _ _ => rfl)) pa_nil))) (pe_one (pe_call (ok__law_is W) (hr.mono (by decide)) rfl W.g__law_is W.F__law_is.kp W.b__law_is .nil pass0 (pa_cons (pe_meth (pv 0) W.C_Store W.m_Store_size (ok_Store_size W) (hr.mono (by decide)) W.b_Store_size .nil pass0 (pa_cons (pv 10) pa_nil)) (pa_cons (pe_callB call_lenU (by rfl) W.n_len bb_len (pa_cons (pe_ix (ix_U hu1) (pv 9) pe_int (fun _ _ => rfl)) pa_nil)) pa_nil)))))))))))))))))))), ?_⟩
    refine ⟨_, rfl, ?_⟩
    refine ⟨rl, A, O, rfl, L.R, by omega, fun fA H1 hfA hF1 f1 => ?_⟩
    have L1 := L.keep f1
    refine ⟨_, rfl, ?_⟩
    refine ⟨rl, A, O, rfl, L1.R, by omega, fun q hq => ?_⟩
    have f2 : Fr [] H1 (upd H1 q (.lst (natV (lvI O O.length)))) := Fr.new hq
    have q2 : upd H1 q (.lst (natV (lvI O O.length))) q = some (.lst (natV (lvI O O.length))) := upd_same
    have L2 := L1.keep f2
    have hF2 := f2 _ _ hF1 (by simp)
    have f2 := f1.trans f2
    show gName 5 (V.ref q) _ (upd H1 q (.lst (natV (lvI O O.length)))) _
    generalize upd H1 q (.lst (natV (lvI O O.length))) = H2 at q2 L2 f2 hF2
    refine ⟨_, rfl, st, _, dx, _, _, rfl, L2.S.st, W.C_Store, W.na_Store_words, rfl, ?_⟩
    refine ⟨_, rfl, ?_⟩
    refine ⟨wl, fA, flat O, rfl, L2.S.wl, hF2, by omega, ?_⟩
    refine ⟨_, rfl, iteF ?_⟩
    refine ⟨_, rfl, st, dx, _, rfl, L2.S.st, rfl, ?_⟩
    refine ⟨st, dx, wl, pl, room, entries, least, flat O, kvs, rfl, L2.S, ?_⟩
    refine ⟨_, rfl, Or.inl ⟨_, Or.inl (SqL.of hF2), ?_⟩⟩
    rw [List.length_map]
    refine ⟨_, _, rfl, ?_⟩
    rw [decide_eq_true rfl]
    refine ⟨_, rfl, iteF ?_⟩
    -- the numbers
    obtain ⟨ms, m1, m2⟩ := L2.G.ints
    refine ⟨_, rfl, st, dx, _, rfl, L2.S.st, rfl, ?_⟩
    refine ⟨st, dx, wl, pl, _, _, least, _, kvs, ms, rfl, L2.S, m1, fun s1 q1 pm1 ps1 hq1 => ?_⟩
    have f3 : Fr [] H2 (upd H2 q1 (.lst (s1.map V.int))) := Fr.new hq1
    have hq3 : upd H2 q1 (.lst (s1.map V.int)) q1 = some (.lst (s1.map V.int)) := upd_same
    generalize upd H2 q1 (.lst (s1.map V.int)) = H3 at f3 hq3
    have L3 := L2.keep f3
    have q3 := f3 _ _ q2 (by simp)
    have f3 := f2.trans f3
    refine ⟨_, rfl, q, rfl, ⟨_, SqL.of q3⟩, fun nA hnA => ?_⟩
    refine lc_list (K := K) (a := q) (xs := natV (lvI O O.length)) (fun i H' => H' = upd H3 nA (.lst ((((lvI O O.length).take i).map (fun i => match O[i]? with
      | some o => o.num
      | none => 0)).map V.int))) rfl (fun i H' _ e => ?_) (fun i x H' hx e => ?_) (fun H' e => ?_)
    · subst e
      exact SqL.of (Fr.new (F := []) hnA q _ q3 (by simp))
    · subst e
      unfold natV at hx
      rw [List.getElem?_map] at hx
      obtain ⟨j, hj, rfl⟩ := Option.map_eq_some_iff.mp hx
      obtain ⟨_, o, ho, _⟩ := lvI_mem (List.mem_of_getElem? hj)
      have R4 := L3.R.mono (Fr.new (o := .lst ((((lvI O O.length).take i).map (fun i => match O[i]? with
        | some o => o.num
        | none => 0)).map V.int)) hnA)
      obtain ⟨a, ha, t1, t2⟩ := R4.get ho
      refine ⟨rfl, ?_⟩
      refine ⟨_, rfl, _, rfl, Or.inl ⟨_, _, _, rfl, Or.inl (SqL.of R4.rl), atI_nat (j := j) (by rw [List.getElem?_map, ha]; rfl), ?_⟩⟩
      refine Or.inl ⟨_, _, _, rfl, Or.inl (SqL.of t1), rfl, ?_⟩
      refine ⟨_, upd_same, by rw [List.length_map, List.length_map, List.length_take, sizeLine_eq]; omega, ?_⟩
      rw [upd_upd, List.take_succ, hj, List.map_append, List.map_append]
      show _ = upd H3 nA (.lst (_ ++ [V.int (match O[j]? with
        | some o => o.num
        | none => 0)]))
      rw [ho]
    subst e
    have ln : (natV (lvI O O.length)).length = (lvI O O.length).length := by unfold natV; rw [List.length_map]
    rw [ln, List.take_length, lvI_nums O.length (Nat.le_refl _), List.take_length]
    have hnA2 : upd H3 nA (.lst ((liveN O).map V.int)) nA = some (.lst ((liveN O).map V.int)) := upd_same
    have f4 : Fr [] H3 (upd H3 nA (.lst ((liveN O).map V.int))) := Fr.new hnA
    generalize upd H3 nA (.lst ((liveN O).map V.int)) = H4 at hnA2 f4
    refine ⟨nA, _, rfl, Or.inl (SqL.of hnA2), fun s2 qs pm2 ps2 hqs => ?_⟩
    have e2 : s1 = s2 := sorted_eq (pm1.trans (m2.trans pm2.symm)) ps1 ps2
    subst e2
    have f5 : Fr [] H4 (upd H4 qs (.lst (s1.map V.int))) := Fr.new hqs
    have hqs5 : upd H4 qs (.lst (s1.map V.int)) qs = some (.lst (s1.map V.int)) := upd_same
    generalize upd H4 qs (.lst (s1.map V.int)) = H5 at f5 hqs5
    have f45 := f4.trans f5
    have L5 := L3.keep f45
    have q5 := f45 _ _ q3 (by simp)
    refine ⟨q1, qs, s1, rfl, f45 _ _ hq3 (by simp), hqs5, ?_, ?_⟩
    · rw [pm2.length_eq]
      unfold liveN
      rw [List.length_map]
      have := List.length_filter_le (fun o : Ob => o.live) O
      omega
    have f5 := f3.trans f45
    clear f45 f4 hqs5 hnA2 hq3 f3 f2 hF2 q2 q3 hF1 f1 L1 L2 L3
    refine ⟨_, rfl, iteF ?_⟩
    -- the free number
    refine ⟨_, rfl, ?_⟩
    refine ⟨rl, A, O, rfl, L5.R, by omega, fun m H6 m0 mm m2' f6 => ?_⟩
    have L6 := L5.keep f6
    have q6 := f6 _ _ q5 (by simp)
    have f6 := f5.trans f6
    refine ⟨_, rfl, st, dx, _, rfl, L6.S.st, rfl, ?_⟩
    refine ⟨_, rfl, ?_⟩
    refine ⟨st, dx, wl, pl, room, entries, least, flat O, kvs, m, rfl, L6.S, ?_⟩
    have hno : (valV kvs (.inl m)).isSome = false := by
      cases e : (valV kvs (.inl m)).isSome with
      | false => rfl
      | true => exact absurd ((L.G.has m).mp e) mm
    rw [hno]
    refine ⟨_, rfl, iteF ?_⟩
    refine ⟨fun σ H' => ∃ (v8 : Option V) (least' : Int), σ = [some (.ref st), some (.ref rl), some (.int entries), some (.int x), some (.ref fA), some (.ref q), none, some (.int m), v8, none, none, none, none] ∧ St2 W.c_Store W.PT_Store_close_up H' st dx wl pl rl tk room entries least' A O kvs U n ∧ Fr [st] H H' ∧ H' q = some (.lst (natV (lvI O O.length))), ?_, ?_⟩
    · refine ⟨_, rfl, st, dx, _, rfl, L6.S.st, rfl, ?_⟩
      have qst : q ≠ st := ne_of q6 L6.S.st (by intro z; cases z)
      refine ⟨st, dx, wl, pl, room, entries, least, flat O, kvs, rfl, L6.S, L6.G.seen, hent, fun m' H7 S7 fr s' v' => ?_⟩
      have f7 : Fr [st] H6 H7 := fun b o e hb => by rw [fr b (by simpa using hb)]; exact e
      have L7 := L6.seen S7 s' f7
      have q7 := f7 _ _ q6 (by simpa using qst)
      have em := L6.G.least s' v' m0 mm m2'
      subst em
      have f67 := (f6.mono (by simp : ∀ b ∈ ([] : List Addr), b ∈ [st])).trans f7
      refine ⟨fun hlt => ?_, fun hnlt d hd => ?_⟩
      · refine ⟨_, rfl, ?_⟩
        refine ⟨_, _, rfl, ?_⟩
        rw [decide_eq_true rfl]
        refine ⟨_, rfl, iteF ?_⟩
        refine ⟨_, rfl, _, rfl, ?_⟩
        refine ⟨_, rfl, ?_⟩
        refine iteD (fun h => ?_) (fun _ => ?_)
        · have h : entries ≤ m' := h
          omega
        · exact ⟨_, m', rfl, L7, f67, q7⟩
      · refine ⟨true, W.em_NN, fun _ a ha => ?_, fun z => nomatch z⟩
        have hd' : L2.upd H7 d (.xd [("limit", V.int entries)]) d = some (.xd [("limit", V.int entries)]) := upd_same
        have f8 : Fr [] H7 (L2.upd H7 d (.xd [("limit", V.int entries)])) := Fr.new hd
        generalize L2.upd H7 d (.xd [("limit", V.int entries)]) = H8 at hd' f8
        refine ⟨_, rfl, rfl, _, d, _, _, rfl, W.E_NoNumber, W.xn_NoNumber_limit, rfl, hd', rfl, ?_⟩
        refine ⟨_, rfl, ?_⟩
        refine ⟨_, _, rfl, ?_⟩
        rw [decide_eq_true rfl]
        refine ⟨_, rfl, iteF ?_⟩
        refine ⟨_, rfl, _, rfl, ?_⟩
        refine ⟨_, rfl, ?_⟩
        refine iteD (fun h => ?_) (fun _ => ?_)
        · have h : m' < entries := h
          exact absurd h hnlt
        · exact ⟨_, m', rfl, L7.keep f8, f67.trans (f8.mono (by simp)), f8 _ _ q7 (by simp)⟩
    clear L5 L6 q5 q6 f5 f6
    rintro σ H8 ⟨v8, least', rfl, L8, f8, q8⟩
    have done := k H8 least' L8 f8
    refine ⟨_, rfl, _, Or.inl ⟨_, SqL.of q8, rfl⟩, ?_⟩
    by_cases hE : lvI O O.length = []
    · rw [show (natV (lvI O O.length)).isEmpty = true by rw [hE]; rfl]
      exact iteT done
    rw [show (natV (lvI O O.length)).isEmpty = false by
      unfold natV
      cases e : lvI O O.length with
      | nil => exact absurd e hE
      | cons a r => rfl]
    refine iteF ?_
    have l0 : 0 < (lvI O O.length).length := List.length_pos_iff.mpr hE
    obtain ⟨i, o, ai, ho, lo⟩ := pickI x hE
    obtain ⟨a, ha, qa1, qa2⟩ := L8.R.get ho
    have lt := off_lt ho
    refine ⟨_, rfl, _, rfl, _, rfl, _, rfl, Or.inl ⟨_, Or.inl (SqL.of q8), ?_⟩⟩
    rw [ln]
    refine ⟨_, _, rfl, rfl, (by omega), ?_⟩
    refine Or.inl ⟨_, _, _, rfl, Or.inl (SqL.of q8), ai, ?_⟩
    refine Or.inl ⟨_, _, _, rfl, Or.inl (SqL.of L8.R.rl), atI_nat (j := i) (by rw [List.getElem?_map, ha]; rfl), ?_⟩
    refine ⟨_, rfl, Or.inl ⟨_, _, _, rfl, Or.inl (SqL.of qa1), rfl, ?_⟩⟩
    have hat := L8.G.at ho lo
    refine ⟨_, rfl, st, dx, _, rfl, L8.S.st, rfl, ?_⟩
    refine ⟨_, rfl, ?_⟩
    refine ⟨st, dx, wl, pl, room, entries, least', flat O, kvs, o.num, rfl, L8.S, ?_⟩
    rw [hat]
    refine ⟨_, rfl, iteF ?_⟩
    refine ⟨_, rfl, st, dx, _, rfl, L8.S.st, rfl, ?_⟩
    refine ⟨_, rfl, ?_⟩
    refine ⟨st, dx, wl, pl, room, entries, least', flat O, kvs, o.num, off O i, o.kind, rfl, L8.S, hat, flat_kind ho, ?_⟩
    refine ⟨_, rfl, Or.inl ⟨_, _, _, rfl, Or.inl (SqL.of qa1), rfl, ?_⟩⟩
    refine ⟨_, _, rfl, ?_⟩
    rw [decide_eq_true rfl]
    refine ⟨_, rfl, iteF ?_⟩
    -- the contents
    refine ⟨_, rfl, Or.inl ⟨_, _, _, rfl, Or.inl (SqL.of qa1), rfl, ?_⟩⟩
    refine Or.inl ⟨_, Or.inl (SqL.of qa2), ?_⟩
    rw [List.length_map]
    have osz := L8.sz o (List.mem_of_getElem? ho)
    refine ⟨_, rfl, by show -(2 ^ 62) ≤ ((o.sl.length : Nat) : Int); omega, by show ((o.sl.length : Nat) : Int) < 2 ^ 62; omega, fun cA hcA => ?_⟩
    refine lc_range (lo := 0) (n := o.sl.length) (fun i H' => H' = upd H8 cA (.lst ((o.sl.take i).map V.int))) rfl (fun j H' hj e => ?_) (fun H' e => ?_)
    · subst e
      have S9 := L8.S.keep (Fr.new (F := []) (o := .lst ((o.sl.take j).map V.int)) hcA) (by simp)
      have hsl := List.getElem?_eq_getElem hj
      have hget : (flat O)[off O i + 3 + j]? = some o.sl[j] := by
        have z := flat_at (k := 3 + j) ho (by rw [fl_len]; omega)
        rw [← Nat.add_assoc] at z
        rw [z]
        unfold fl
        rw [show 3 + j = j + 1 + 1 + 1 by omega]
        exact hsl
      refine ⟨rfl, ?_⟩
      refine ⟨_, rfl, st, dx, _, rfl, S9.st, rfl, ?_⟩
      refine ⟨_, rfl, _, rfl, ?_⟩
      refine ⟨st, dx, wl, pl, room, entries, least', flat O, kvs, o.num, off O i, j, _, by rw [Int.zero_add]; rfl, S9, hat, hget, ?_⟩
      refine ⟨_, upd_same, by rw [List.length_map, List.length_take, sizeLine_eq]; omega, ?_⟩
      rw [upd_upd, List.take_succ, hsl, List.map_append]
      rfl
    subst e
    rw [List.take_length]
    have f9 : Fr [] H8 (upd H8 cA (.lst (o.sl.map V.int))) := Fr.new hcA
    have c9 : upd H8 cA (.lst (o.sl.map V.int)) cA = some (.lst (o.sl.map V.int)) := upd_same
    show gName 11 (V.ref cA) _ (upd H8 cA (.lst (o.sl.map V.int))) _
    generalize upd H8 cA (.lst (o.sl.map V.int)) = H9 at f9 c9
    have L9 := L8.keep f9
    have qa1 := f9 _ _ qa1 (by simp)
    have qa2 := f9 _ _ qa2 (by simp)
    refine ⟨_, rfl, _, rfl, Or.inl ⟨_, _, _, rfl, Or.inl (SqL.of qa1), rfl, ?_⟩⟩
    refine ⟨cA, a.2, o.sl, rfl, c9, qa2, by omega, ?_⟩
    refine ⟨_, rfl, iteT ?_⟩
    refine ⟨_, rfl, st, dx, _, rfl, L9.S.st, rfl, ?_⟩
    refine ⟨_, rfl, ?_⟩
    refine ⟨st, dx, wl, pl, room, entries, least', flat O, kvs, o.num, off O i, o.sl.length, rfl, L9.S, hat, flat_size ho, by omega, fun sA hsA => ?_⟩
    rw [flat_slots ho]
    have f10 : Fr [] H9 (upd H9 sA (.lst (o.sl.map V.int))) := Fr.new hsA
    have c10 : upd H9 sA (.lst (o.sl.map V.int)) sA = some (.lst (o.sl.map V.int)) := upd_same
    generalize upd H9 sA (.lst (o.sl.map V.int)) = H10 at f10 c10
    have L10 := L9.keep f10
    have qa1 := f10 _ _ qa1 (by simp)
    have qa2 := f10 _ _ qa2 (by simp)
    refine ⟨_, rfl, Or.inl ⟨_, _, _, rfl, Or.inl (SqL.of qa1), rfl, ?_⟩⟩
    refine ⟨sA, a.2, o.sl, rfl, c10, qa2, by omega, ?_⟩
    refine ⟨_, rfl, iteT ?_⟩
    refine ⟨_, rfl, st, dx, _, rfl, L10.S.st, rfl, ?_⟩
    refine ⟨_, rfl, ?_⟩
    refine ⟨st, dx, wl, pl, room, entries, least', flat O, kvs, o.num, off O i, (o.sl.length : Int), rfl, L10.S, hat, flat_size ho, ?_⟩
    refine ⟨_, rfl, Or.inl ⟨_, _, _, rfl, Or.inl (SqL.of qa1), rfl, ?_⟩⟩
    refine Or.inl ⟨_, Or.inl (SqL.of qa2), ?_⟩
    rw [List.length_map]
    refine ⟨_, _, rfl, ?_⟩
    rw [decide_eq_true rfl]
    exact k H10 least' L10 ((f8.trans (f9.mono (by simp))).trans (f10.mono (by simp)))
end

end LX
namespace LX
open PySem PySem.Spec PyProof.Rows L2 NdefX
theorem Good.nil : Good [] [] 0 := ⟨fun k v => by simp [valV], List.nodup_nil, fun i j o o' h => by simp at h, ⟨Int.le_refl _, fun n h0 h1 => by omega⟩⟩
section
variable {P : Program} {w : World} {K : PySem.W.Frag} {mg : Str → Option Value} {base : Heap}
theorem St2.le {C PT : Addr} {H : Hp} {st dx wl pl rl tk : Addr} {room entries least : Int} {A : List (Addr × Addr)} {O : List Ob} {kvs : List (Key × V)} {U : List Snap} {n m : Nat} (L : St2 C PT H st dx wl pl rl tk room entries least A O kvs U n) (h : n ≤ m) : St2 C PT H st dx wl pl rl tk room entries least A O kvs U m :=
  ⟨L.S, L.G, L.R, L.D, L.hk, L.nk, L.sz, L.nn, Nat.le_trans L.len h, sn_next (Goes.of Fr.rfl') L.sn h, L.tab⟩
theorem Goes.fr {H H1 H2 : Hp} {F F1 E : List Addr} (g : Goes H H1 F F1) (f : Fr E H1 H2) (h : ∀ b ∈ E, b ∈ F) : Goes H H2 F F1 := ⟨fun c o e n t => f _ _ (g.f c o e n t) (fun m => n (h c m)), g.n⟩
theorem Goes.fr0 {H H1 H2 : Hp} {F F2 : List Addr} (f : Fr [] H H1) (g : Goes H1 H2 F F2) : Goes H H2 F F2 := ⟨fun c o e n t => g.f c o (f _ _ e (by simp)) n t, fun b hb => by
  rcases g.n b hb with h | h
  · exact Or.inl h
  · exact Or.inr (fr_none f h)⟩
theorem Goes.stays {H H1 : Hp} {F F1 : List Addr} (g : Goes H H1 F F1) {b : Addr} {xs : List V} (h : H b = some (.lst xs)) (n : b ∉ F) : H1 b = some (.lst xs) ∧ b ∉ F1 := by
  refine ⟨g.f.lst h n, fun m => ?_⟩
  rcases g.n b m with q | q
  · exact n q
  · rw [h] at q; cases q
theorem Goes.staysT {H H1 : Hp} {F F1 : List Addr} (g : Goes H H1 F F1) {b : Addr} {xs : List V} (h : H b = some (.tup xs)) (n : b ∉ F) : H1 b = some (.tup xs) ∧ b ∉ F1 := by
  refine ⟨g.f _ _ h n (by intro ps z; cases z), fun m => ?_⟩
  rcases g.n b m with q | q
  · exact n q
  · rw [h] at q; cases q
def sp_deed (C PT : Addr) : Sp := fun vs H Q _ => ∃ st dx wl pl rl tk room entries least A O kvs U n li, ∃ x : Int, vs = [.ref st, .ref rl, .ref tk, .ref li, .int x] ∧ St2 C PT H st dx wl pl rl tk room entries least A O kvs U n ∧ H li = some (.tup [.int room, .int entries]) ∧
  n ≤ 200 ∧ U.length ≤ 1000 ∧ room ≤ 1000 ∧ StrOk (.int entries) ∧
  ∀ H' wl' pl' least' A' O' kvs' U', St2 C PT H' st dx wl' pl' rl tk room entries least' A' O' kvs' U' (n + 1) → U'.length ≤ U.length + 1 → Goes H H' (FF st wl pl rl tk A) (FF st wl' pl' rl tk A') → Q (.bl true) H'
theorem ok__law_deed (W : WT P K mg base) : FnOk P w K mg base CX0 6 W.f__law_deed W.fd__law_deed ["_law_store", "_law_row", "_law_taken", "_law_limits", "_law_x"] (sp_deed W.c_Store W.PT_Store_close_up) := by
  refine W.F__law_deed.ok sc__law_deed (fun vs H Q E h => ?_) (fun cdv Ar outer s H vs Q E hr h => ?_)
  · obtain ⟨st, dx, wl, pl, rl, tk, room, entries, least, A, O, kvs, U, n, li, x, rfl, _⟩ := h
    rfl
  · obtain ⟨st, dx, wl, pl, rl, tk, room, entries, least, A, O, kvs, U, n, li, x, rfl, L, hli, hn, hU, hroom, hent, k⟩ := h
    have hu1 := hu_of hr
    have hu64 := hu64_of hr
    have nli := L.tup hli
    refine ⟨_, (pss_cons (ps_if (pt_cmpR op_ltU (pe_op op_mod (pe_callTy call_intU (by rfl) W.n_int bb_int (pa_cons (pv 4) pa_nil)) pe_int) pe_int (by first | exact nomark _ | rfl)) (pss_cons (ps_set (i := 5) sc__law_deed.nd rfl (by first | exact Or.inl rfl | exact Or.inr rfl) (pe_op op_mod (pe_op op_fdivW (pv 4) pe_int) pe_int))
      (Evl.pss_cut (ps_if (pt_cmpR (op_eqU hu64) (pe_op op_mod (pe_op op_fdivW (pv 4) pe_int) pe_int) pe_int (by first | exact nomark _ | rfl)) (pss_one (ps_set (i := 5) sc__law_deed.nd rfl (by first | exact Or.inl rfl | exact Or.inr rfl) (pe_op op_mod (pe_op op_fdivW (pv 4) pe_int) pe_int))) pss_nil)
      (pss_one (ps_if (pt_not (pt_truth (pe_call (ok__law_allocated W) (hr.mono (by decide)) rfl W.g__law_allocated W.F__law_allocated.kp W.b__law_allocated .nil pass0 (pa_cons (pv 0) (pa_cons (pv 1) (pa_cons (pv 3) (pa_cons (pe_call (ok__law_word W) (hr.mono (by decide)) rfl W.g__law_word W.F__law_word.kp W.b__law_word .nil pass0 (pa_cons (pe_op op_fdivW (pv 4) pe_int) pa_nil)) (pa_cons (pv 5) pa_nil)))))) (by intro _; rfl))) (pss_one (ps_ret pe_bl)) pss_nil)))) (pss_one (ps_expr (pe_call (ok__law_changed W) (hr.mono (by decide)) rfl W.g__law_changed W.F__law_changed.kp W.b__law_changed .nil pass0 (pa_cons (pv 0) (pa_cons (pv 1) (pa_cons (pv 2) (pa_cons (pe_op op_mod (pe_callTy call_intU (by rfl) W.n_int bb_int (pa_cons (pv 4) pa_nil)) pe_int) (pa_cons (pv 4) pa_nil)))))))))
      (pss_one (ps_ret (pe_call (ok__law_agrees W) (hr.mono (by decide)) rfl W.g__law_agrees W.F__law_agrees.kp W.b__law_agrees .nil pass0 (pa_cons (pv 0) (pa_cons (pv 1) (pa_cons (pe_ix (ix_U hu1) (pv 3) pe_int (fun _ _ => rfl)) (pa_cons (pe_op op_fdivW (pv 4) pe_int) pa_nil)))))))), ?_⟩
    have last : ∀ (σ : L2.St) (v5 : Option V) H1 wl' pl' least' A' O' kvs' U', σ = [some (.ref st), some (.ref rl), some (.ref tk), some (.ref li), some (.int x), v5] → St2 W.c_Store W.PT_Store_close_up H1 st dx wl' pl' rl tk room entries least' A' O' kvs' U' (n + 1) → U'.length ≤ U.length + 1 → Goes H H1 (FF st wl pl rl tk A) (FF st wl' pl' rl tk A') →
        H1 li = some (.tup [.int room, .int entries]) ∧ ∀ x', sp_agrees W.c_Store W.PT_Store_close_up [.ref st, .ref rl, .int entries, .int x'] H1 Q E0 := fun σ v5 H1 wl' pl' least' A' O' kvs' U' eσ L1 hU1 g1 => by
      obtain ⟨hli1, nli1⟩ := g1.staysT hli nli
      exact ⟨hli1, fun x' => ⟨st, dx, wl', pl', rl, tk, room, entries, least', A', O', kvs', U', n + 1, x', rfl, L1, by omega, hent, fun H2 least2 L2 f2 => k H2 wl' pl' least2 A' O' kvs' U' L2 hU1 (g1.fr f2 (by unfold FF; simp))⟩⟩
    refine ⟨_, rfl, _, _, rfl, rfl, (by show (0 : Int) < 16; decide), _, rfl, ?_⟩
    refine iteD (fun h0 => ?_) (fun h0 => ?_)
    · refine ⟨_, rfl, _, _, rfl, rfl, ⟨by decide, by decide⟩, ?_⟩
      refine ⟨_, _, rfl, rfl, (by show (0 : Int) < 5; decide), ?_⟩
      refine ⟨fun σ H' => ∃ z : Nat, σ = [some (.ref st), some (.ref rl), some (.ref tk), some (.ref li), some (.int x), some (.int (z : Int))] ∧ z ≤ 79 ∧ H' = H, ?_, ?_⟩
      · refine ⟨_, rfl, _, _, rfl, rfl, ⟨by decide, by decide⟩, ?_⟩
        refine ⟨_, _, rfl, rfl, (by show (0 : Int) < 16; decide), ?_⟩
        refine ⟨rfl, _, rfl, ?_⟩
        refine ite_eq (I_dec _ _) (iteD (fun h1 => ?_) (fun h1 => ?_))
        · refine ⟨_, rfl, _, _, rfl, rfl, ⟨by decide, by decide⟩, ?_⟩
          refine ⟨_, _, rfl, rfl, (by show (0 : Int) < 80; decide), ?_⟩
          have e1 := Int.emod_nonneg (x / 1280) (by decide : (80 : Int) ≠ 0)
          have e2 := Int.emod_lt_of_pos (x / 1280) (by decide : (0 : Int) < 80)
          exact ⟨(x / 1280 % 80).toNat, by rw [show ((x / 1280 % 80).toNat : Int) = x / 1280 % 80 by omega]; rfl, by omega, rfl⟩
        · have e1 := Int.emod_nonneg (x / 16) (by decide : (5 : Int) ≠ 0)
          have e2 := Int.emod_lt_of_pos (x / 16) (by decide : (0 : Int) < 5)
          exact ⟨(x / 16 % 5).toNat, by rw [show ((x / 16 % 5).toNat : Int) = x / 16 % 5 by omega]; rfl, by omega, rfl⟩
      rintro σ H' ⟨z, rfl, hz, rfl⟩
      refine ⟨_, rfl, _, rfl, _, rfl, _, rfl, _, _, rfl, rfl, ⟨by decide, by decide⟩, ?_⟩
      refine ⟨_, rfl, fun r => ?_⟩
      refine ⟨_, rfl, ?_⟩
      refine ⟨st, dx, wl, pl, rl, tk, room, entries, least, A, O, kvs, U, n, li, r, z, rfl, L, hli, hz, hn, hroom, hent, fun H1 wl' pl' least' A' O' kvs' L1 g1 => ?_⟩
      obtain ⟨hli1, fin⟩ := last _ (some (.int (z : Int))) H1 wl' pl' least' A' O' kvs' U rfl L1 (by omega) g1
      refine ⟨_, rfl, iteF ?_⟩
      refine ⟨_, rfl, _, rfl, _, rfl, Or.inl ⟨_, _, _, rfl, Or.inr (SqT.of hli1), atI_nat (j := 1) rfl, ?_⟩⟩
      refine ⟨_, rfl, _, _, rfl, rfl, ⟨by decide, by decide⟩, ?_⟩
      exact fin _
    · refine ⟨_, rfl, _, rfl, _, rfl, _, rfl, _, _, rfl, rfl, (by show (0 : Int) < 16; decide), ?_⟩
      refine ⟨_, rfl, ?_⟩
      refine ⟨st, dx, wl, pl, rl, tk, room, entries, least, A, O, kvs, U, n, _, x, rfl, L, hn, hU, fun H1 wl' pl' least' A' O' kvs' U' L1 hU1 g1 => ?_⟩
      obtain ⟨hli1, fin⟩ := last _ none H1 wl' pl' least' A' O' kvs' U' rfl (L1.le (by omega)) hU1 g1
      refine ⟨_, rfl, _, rfl, _, rfl, Or.inl ⟨_, _, _, rfl, Or.inr (SqT.of hli1), atI_nat (j := 1) rfl, ?_⟩⟩
      refine ⟨_, rfl, _, _, rfl, rfl, ⟨by decide, by decide⟩, ?_⟩
      exact fin _
end
section
variable {P : Program} {w : World} {K : PySem.W.Frag} {mg : Str → Option Value} {base : Heap}
def sp_law2 (K : PySem.W.Frag) (PT : Addr) : Sp := fun vs H Q _ => ∃ (a : Addr) (ns : List Int), vs = [.ref a] ∧ SqL K H a (ns.map V.int) ∧ ns.length ≤ 63 ∧ LamX.TabS H PT qLam ∧ ∀ H', Q (.bl true) H'
theorem ok_law (W : WT P K mg base) : FnOk P w K mg base CX0 7 W.f_law W.fd_law ["_law_script"] (sp_law2 K W.PT_Store_close_up) := by
  refine W.F_law.ok sc_law (fun vs H Q E h => ?_) (fun cdv Ar outer s H vs Q E hr h => ?_)
  · obtain ⟨a, ns, rfl, _⟩ := h
    rfl
  · obtain ⟨a, ns, rfl, hs, hl, hT, k⟩ := h
    have hu1 := hu_of hr
    have hu64 := hu64_of hr
    refine ⟨_, (pss_cons (ps_setLc (i := 1) (own := [("_law_cell", 2)]) (g := gName 2) (tt := tYes) rfl sc_law.nd rfl rfl (sw_true rfl rfl rfl (by decide +kernel)) (pi_list (pv 0)) (blkOk_by (N := N_law) (sc := defScope s_law) (by decide +kernel)) (fun _ _ _ _ _ => (pg_name (i := 2) sc_law.nd rfl (by first | exact Or.inl rfl | exact Or.inr rfl))) (fun _ _ _ _ _ => pts_nil) (fun _ _ _ _ _ => (pe_callTy call_intU (by rfl) W.n_int bb_int (pa_cons (pv 2) pa_nil))))
      (Evl.pss_cut (ps_if (pt_not (pt_truth (pv 1) (by intro _; rfl))) (pss_one (ps_set (i := 1) sc_law.nd rfl (by first | exact Or.inl rfl | exact Or.inr rfl) (pe_lst (pa_cons pe_int pa_nil)))) pss_nil)
      (pss_cons (ps_set (i := 3) sc_law.nd rfl (by first | exact Or.inl rfl | exact Or.inr rfl) (pe_op op_mod (pe_callTy call_intU (by rfl) W.n_int bb_int (pa_cons (pe_ix (ix_U hu1) (pv 1) pe_int (fun _ _ => rfl)) pa_nil)) pe_int))
      (Evl.pss_cut (ps_if (pt_cmpR (op_eqU hu64) (pe_op op_mod (pe_op op_fdivW (pe_ix (ix_U hu1) (pv 1) pe_int (fun _ _ => rfl)) pe_int) pe_int) pe_int (by first | exact nomark _ | rfl)) (pss_one (ps_set (i := 3) sc_law.nd rfl (by first | exact Or.inl rfl | exact Or.inr rfl) (pe_op op_addU pe_int (pe_op op_mod (pe_op op_fdivW (pe_ix (ix_U hu1) (pv 1) pe_int (fun _ _ => rfl)) pe_int) pe_int)))) pss_nil)
      (pss_cons (ps_set (i := 4) sc_law.nd rfl (by first | exact Or.inl rfl | exact Or.inr rfl) pe_int)
      (Evl.pss_cut (ps_if (pt_cmpR (op_eqU hu64) (pe_op op_mod (pe_op op_fdivW (pe_ix (ix_U hu1) (pv 1) pe_int (fun _ _ => rfl)) pe_int) pe_int) pe_int (by first | exact nomark _ | rfl)) (pss_one (ps_set (i := 4) sc_law.nd rfl (by first | exact Or.inl rfl | exact Or.inr rfl) (pe_op op_mod (pe_op op_fdivW (pe_ix (ix_U hu1) (pv 1) pe_int (fun _ _ => rfl)) pe_int) pe_int))) pss_nil)
      (pss_cons (ps_set (i := 5) sc_law.nd rfl (by first | exact Or.inl rfl | exact Or.inr rfl) (pe_make W.M_Store (ok_Store___init__ W) (hr.mono (by decide)) rfl W.g_Store W.b_Store___init__ .nil pass0 (pa_cons (pv 3) (pa_cons (pv 4) pa_nil))))
      (Evl.pss_cut (ps_if (PW.pt (pw_or (pt_not (pt_truth (pe_call (ok__law_is W) (hr.mono (by decide)) rfl W.g__law_is W.F__law_is.kp W.b__law_is .nil pass0 (pa_cons (pe_gi rfl W.g_HEADER) (pa_cons pe_int pa_nil))) (by intro _; rfl))) (pw_or (pt_not (pt_truth (pe_call (ok__law_is W) (hr.mono (by decide)) rfl W.g__law_is W.F__law_is.kp W.b__law_is .nil pass0 (pa_cons (pe_fld (pv 5) rfl) (pa_cons (pv 3) pa_nil))) (by intro _; rfl))) (pw_or1 (pt_not (pt_truth (pe_call (ok__law_is W) (hr.mono (by decide)) rfl W.g__law_is W.F__law_is.kp W.b__law_is .nil pass0 (pa_cons (pe_fld (pv 5) rfl) (pa_cons (pv 4) pa_nil))) (by intro _; rfl))))))) (pss_one (ps_ret pe_bl)) pss_nil)
      (pss_cons (ps_set (i := 6) sc_law.nd rfl (by first | exact Or.inl rfl | exact Or.inr rfl) (pe_lst pa_nil))
      (pss_cons (ps_set (i := 7) sc_law.nd rfl (by first | exact Or.inl rfl | exact Or.inr rfl) (pe_lst pa_nil))
      (pss_cons (ps_for PassesOwn.never rfl (pi_range2 (by rfl) W.n_range (pa_cons pe_int (pa_cons (pe_callB call_lenU (by rfl) W.n_len bb_len (pa_cons (pv 1) pa_nil)) pa_nil))) (pg_name (i := 8) sc_law.nd rfl (by first | exact Or.inl rfl | exact Or.inr rfl)) (pss_one (ps_for PassesOwn.never rfl (pi_list (pe_call (ok__law_deeds W) (hr.mono (by decide)) rfl W.g__law_deeds W.F__law_deeds.kp W.b__law_deeds .nil pass0 (pa_cons (pe_ix (ix_U hu1) (pv 1) (pv 8) (fun _ _ => rfl)) (pa_cons (pv 8) pa_nil)))) (pg_name (i := 9) sc_law.nd rfl (by first | exact Or.inl rfl | exact Or.inr rfl)) (pss_one (ps_if (pt_not (pt_truth (pe_call (ok__law_deed W) (hr.mono (by decide)) rfl W.g__law_deed W.F__law_deed.kp W.b__law_deed .nil pass0 (pa_cons (pv 5) (pa_cons (pv 6) (pa_cons (pv 7) (pa_cons (pe_tup (pa_cons (pv 3) (pa_cons (pv 4) pa_nil))) (pa_cons (pv 9) pa_nil)))))) (by intro _; rfl))) (pss_one (ps_ret pe_bl)) pss_nil)))))
      (pss_one (ps_ret pe_bl))))))))))))), ?_⟩
    -- cells
    refine ⟨_, rfl, a, rfl, ⟨_, hs⟩, fun cl hcl => ?_⟩
    refine lc_list (K := K) (a := a) (xs := ns.map V.int) (fun i H' => H' = upd H cl (.lst ((ns.take i).map V.int))) rfl (fun i H' _ e => ?_) (fun i x H' hx e => ?_) (fun H' e => ?_)
    · subst e
      have same : L2.Same H (upd H cl (.lst ((ns.take i).map V.int))) := fun b u e => by rw [upd_ne (ne_of_none e hcl)]; exact e
      exact same.seq hs
    · subst e
      rw [List.getElem?_map] at hx
      obtain ⟨n, hn, rfl⟩ := Option.map_eq_some_iff.mp hx
      refine ⟨rfl, ?_⟩
      refine ⟨_, rfl, ?_⟩
      refine ⟨_, upd_same, by rw [List.length_map, List.length_take, sizeLine_eq]; omega, ?_⟩
      rw [upd_upd, List.take_succ, hn, List.map_append]
      rfl
    subst e
    rw [List.length_map, List.take_length]
    have hc1 : upd H cl (.lst (ns.map V.int)) cl = some (.lst (ns.map V.int)) := upd_same
    have hT1 := tab_fr hT (Fr.new (F := []) (o := .lst (ns.map V.int)) hcl) (by simp)
    show gName 1 (V.ref cl) _ (upd H cl (.lst (ns.map V.int))) _
    generalize upd H cl (.lst (ns.map V.int)) = H1 at hc1 hT1
    refine ⟨fun σ H' => ∃ (cl2 : Addr) (cs : List Int), σ = (L2.start N_law [V.ref a]).set 1 (some (.ref cl2)) ∧ IsI H' cl2 cs ∧ 0 < cs.length ∧ cs.length ≤ 63 ∧ LamX.TabS H' W.PT_Store_close_up qLam, ?_, ?_⟩
    · refine ⟨_, rfl, _, Or.inl ⟨_, SqL.of hc1, rfl⟩, ?_⟩
      cases ns with
      | nil =>
        refine iteT ?_
        refine ⟨(by show 1 ≤ sizeLine; decide), fun q hq => ?_⟩
        exact ⟨q, [7], rfl, upd_same, by decide, by decide, tab_fr hT1 (Fr.new (F := []) hq) (by simp)⟩
      | cons n0 r0 =>
        refine iteF ?_
        exact ⟨cl, n0 :: r0, rfl, hc1, by simp, hl, hT1⟩
    clear hc1 hT1 hT hs hl
    rintro σ H2 ⟨cl2, cs, rfl, hc, c0, c63, hT⟩
    obtain ⟨x0, hx0⟩ : ∃ x0, cs[0]? = some x0 := ⟨cs[0]'c0, List.getElem?_eq_getElem c0⟩
    -- the room
    refine ⟨_, rfl, Or.inl ⟨_, _, _, rfl, Or.inl (SqL.of hc), atI_nat (j := 0) (int_at hx0), ?_⟩⟩
    refine ⟨_, _, rfl, rfl, (by show (0 : Int) < 60; decide), ?_⟩
    refine ⟨fun σ H' => (∃ room : Int, σ = [some (.ref a), some (.ref cl2), none, some (.int room), none, none, none, none, none, none] ∧ room ≤ 1000) ∧ H' = H2, ?_, ?_⟩
    · refine ⟨_, rfl, Or.inl ⟨_, _, _, rfl, Or.inl (SqL.of hc), atI_nat (j := 0) (int_at hx0), ?_⟩⟩
      refine ⟨_, _, rfl, rfl, ⟨by decide, by decide⟩, ?_⟩
      refine ⟨_, _, rfl, rfl, (by show (0 : Int) < 3; decide), ?_⟩
      refine ⟨rfl, _, rfl, ?_⟩
      refine ite_eq (I_dec _ _) (iteD (fun h1 => ?_) (fun h1 => ?_))
      · refine ⟨_, rfl, Or.inl ⟨_, _, _, rfl, Or.inl (SqL.of hc), atI_nat (j := 0) (int_at hx0), ?_⟩⟩
        refine ⟨_, _, rfl, rfl, ⟨by decide, by decide⟩, ?_⟩
        refine ⟨_, _, rfl, rfl, (by show (0 : Int) < 300; decide), ?_⟩
        have e2 := Int.emod_lt_of_pos (x0 / 180) (by decide : (0 : Int) < 300)
        exact ⟨⟨200 + x0 / 180 % 300, rfl, by omega⟩, rfl⟩
      · have e2 := Int.emod_lt_of_pos x0 (by decide : (0 : Int) < 60)
        exact ⟨⟨x0 % 60, rfl, by omega⟩, rfl⟩
    rintro σ H2' ⟨⟨room, rfl, hroom⟩, rfl⟩
    refine ⟨fun σ H' => (∃ entries : Int, σ = [some (.ref a), some (.ref cl2), none, some (.int room), some (.int entries), none, none, none, none, none] ∧ StrOk (.int entries)) ∧ H' = H2', ?_, ?_⟩
    · refine ⟨_, rfl, Or.inl ⟨_, _, _, rfl, Or.inl (SqL.of hc), atI_nat (j := 0) (int_at hx0), ?_⟩⟩
      refine ⟨_, _, rfl, rfl, ⟨by decide, by decide⟩, ?_⟩
      refine ⟨_, _, rfl, rfl, (by show (0 : Int) < 2; decide), ?_⟩
      refine ⟨rfl, _, rfl, ?_⟩
      refine ite_eq (I_dec _ _) (iteD (fun h1 => ?_) (fun h1 => ?_))
      · refine ⟨_, rfl, Or.inl ⟨_, _, _, rfl, Or.inl (SqL.of hc), atI_nat (j := 0) (int_at hx0), ?_⟩⟩
        refine ⟨_, _, rfl, rfl, ⟨by decide, by decide⟩, ?_⟩
        refine ⟨_, _, rfl, rfl, (by show (0 : Int) < 8; decide), ?_⟩
        have e1 := Int.emod_nonneg (x0 / 360) (by decide : (8 : Int) ≠ 0)
        have e2 := Int.emod_lt_of_pos (x0 / 360) (by decide : (0 : Int) < 8)
        refine ⟨⟨x0 / 360 % 8, rfl, ?_⟩, rfl⟩
        show (x0 / 360 % 8).natAbs.log2 < 1920
        have := Nat.log2_le_self (x0 / 360 % 8).natAbs
        omega
      · exact ⟨⟨100000, rfl, by show (100000 : Int).natAbs.log2 < 1920; decide⟩, rfl⟩
    rintro σ H2 ⟨⟨entries, rfl, hent⟩, rfl⟩
    -- the store
    refine ⟨_, rfl, _, rfl, ?_⟩
    refine fun st dx hst hdx ndx => ?_
    have hx0 : upd H2 dx (.own st) st = none := by rw [upd_ne ndx.symm]; exact hst
    refine ⟨st, dx, room, entries, rfl, upd_same, fun H3 wl pl S3 f3 hwl hpl => ⟨rfl, ?_⟩⟩
    have fS : Fr [] H2 H3 := fun b o e _ => by
      have h1 : upd H2 dx (.own st) b = some o := by rw [upd_ne (ne_of_none e hdx)]; exact e
      exact f3 b o (by rw [upd_ne (ne_of_none h1 hx0)]; exact h1) (ne_of_none e hst)
    have hc3 := fS _ _ hc (by simp)
    have hT3 := tab_fr hT fS (by simp)
    have cwl : cl2 ≠ wl := fun e => by
      rw [e, S3.wl] at hc3
      have hc3 : HO.lst ([].map V.int) = .lst (cs.map V.int) := Option.some.inj hc3
      cases cs with
      | nil => simp at c0
      | cons => cases hc3
    refine ⟨fun σ H' => σ = [some (.ref a), some (.ref cl2), none, some (.int room), some (.int entries), some (.ref st), none, none, none, none] ∧ H' = H3, ?_, ?_⟩
    · refine ⟨3, 3, rfl, ?_⟩
      rw [decide_eq_true rfl]
      refine ⟨_, rfl, iteF ?_⟩
      refine ⟨_, rfl, st, _, dx, _, _, rfl, S3.st, W.C_Store, W.na_Store_room, rfl, ?_⟩
      refine ⟨_, rfl, ?_⟩
      refine ⟨_, _, rfl, ?_⟩
      rw [decide_eq_true rfl]
      refine ⟨_, rfl, iteF ?_⟩
      refine ⟨_, rfl, st, _, dx, _, _, rfl, S3.st, W.C_Store, W.na_Store_entries, rfl, ?_⟩
      refine ⟨_, rfl, ?_⟩
      refine ⟨_, _, rfl, ?_⟩
      rw [decide_eq_true rfl]
      exact ⟨_, rfl, iteF ⟨rfl, rfl⟩⟩
    rintro σ H3' ⟨rfl, rfl⟩
    refine ⟨(by show 0 ≤ sizeLine; decide), fun rl hrl => ?_⟩
    have f4 : Fr [] H3' (upd H3' rl (.lst [])) := Fr.new hrl
    have r4 : upd H3' rl (.lst []) rl = some (.lst []) := upd_same
    show gName 6 (V.ref rl) _ (upd H3' rl (.lst [])) _
    generalize upd H3' rl (.lst []) = H4 at f4 r4
    have S4 := S3.keep f4 (by simp)
    refine ⟨(by show 0 ≤ sizeLine; decide), fun tk htk => ?_⟩
    have f5 : Fr [] H4 (upd H4 tk (.lst [])) := Fr.new htk
    have t5 : upd H4 tk (.lst []) tk = some (.lst []) := upd_same
    have ntr : tk ≠ rl := (ne_of_none r4 htk).symm
    have tw : tk ≠ wl := (ne_of_none S4.wl htk).symm
    have ts : tk ≠ st := (ne_of_none S4.st htk).symm
    have tp : tk ≠ pl := (ne_of_none S4.pl htk).symm
    show gName 7 (V.ref tk) _ (upd H4 tk (.lst [])) _
    generalize upd H4 tk (.lst []) = H5 at f5 t5
    have S5 := S4.keep f5 (by simp)
    have r5 := f5 _ _ r4 (by simp)
    have f35 := f4.trans f5
    have hc5 := f35 _ _ hc3 (by simp)
    have rs : rl ≠ st := (ne_of_none S3.st hrl).symm
    have rw' : rl ≠ wl := (ne_of_none S3.wl hrl).symm
    have rp : rl ≠ pl := (ne_of_none S3.pl hrl).symm
    have L5 : St2 W.c_Store W.PT_Store_close_up H5 st dx wl pl rl tk room entries 0 [] [] [] [] 0 := ⟨S5, Good.nil, ⟨r5, rfl, fun i a o h => by simp at h⟩, ⟨fun i j a b h => by simp at h, fun a b h => by simp at h, fun a h => by simp at h, by simp [rs, rw', rp, ntr.symm], fun a h => by simp at h⟩, t5, tw, fun o h => by simp at h, fun o h => by simp at h, Nat.le_refl _, fun t h => by simp at h, tab_fr hT3 f35 (by simp)⟩
    have cF : cl2 ∉ FF st wl pl rl tk [] := fun h => by
      unfold FF ad at h
      simp only [List.mem_cons, List.flatMap_nil, List.not_mem_nil, or_false] at h
      rcases h with e | e | e | e | e
      · exact ne_of hc3 S3.st (by intro z; cases z) e
      · exact cwl e
      · exact ne_of hc3 S3.pl (by intro z; cases z) e
      · exact ne_of_none hc3 hrl e
      · exact ne_of_none (f4 _ _ hc3 (by simp)) htk e
    clear f35 f4 f5 r4 t5 r5 S4 S5 S3 hc hT hc3 hT3 f3 fS
    refine ⟨_, rfl, Or.inl ⟨_, Or.inl (SqL.of hc5), ?_⟩⟩
    rw [List.length_map]
    refine ⟨1, _, rfl, ⟨by decide, by decide, by omega, by omega⟩, for_range (lo := 1) (n := ((cs.length : Int) - 1).toNat) (fun i σ H' => ∃ (v8 v9 : Option V) (wl pl : Addr) (least : Int) (A : List (Addr × Addr)) (O : List Ob) (kvs : List (Key × V)) (U : List Snap), σ = [some (.ref a), some (.ref cl2), none, some (.int room), some (.int entries), some (.ref st), some (.ref rl), some (.ref tk), v8, v9] ∧ St2 W.c_Store W.PT_Store_close_up H' st dx wl pl rl tk room entries least A O kvs U (2 * i) ∧ U.length ≤ 2 * i ∧ H' cl2 = some (.lst (cs.map V.int)) ∧ cl2 ∉ FF st wl pl rl tk A)
      ⟨_, _, wl, pl, 0, [], [], [], [], rfl, L5, Nat.le_refl _, hc5, cF⟩ (fun i σ H6 hi hI => ?_) (fun σ H6 hI => k _)⟩
    obtain ⟨v8, v9, wl1, pl1, least1, A1, O1, kvs1, U1, rfl, L6, hU6, hc6, cF6⟩ := hI
    obtain ⟨c, hcc⟩ : ∃ c, cs[1 + i]? = some c := ⟨cs[1 + i]'(by omega), List.getElem?_eq_getElem (by omega)⟩
    refine ⟨_, rfl, _, rfl, Or.inl ⟨_, _, _, rfl, Or.inl (SqL.of hc6), (by rw [show (1 : Int) + (i : Int) = ((1 + i : Nat) : Int) by omega]; exact atI_nat (int_at hcc)), ?_⟩⟩
    refine ⟨_, rfl, ?_⟩
    refine ⟨c, 1 + (i : Int), rfl, by omega, by omega, fun q x1 x2 hq => ?_⟩
    have f7 : Fr [] H6 (upd H6 q (.lst [.int x1, .int x2])) := Fr.new hq
    have q7 : upd H6 q (.lst [.int x1, .int x2]) q = some (.lst [.int x1, .int x2]) := upd_same
    have qF : q ∉ FF st wl1 pl1 rl tk A1 := fun h => by
      obtain ⟨o, e, _⟩ := L6.ff q h
      rw [hq] at e
      cases e
    generalize upd H6 q (.lst [.int x1, .int x2]) = H7 at f7 q7
    have L7 := L6.keep f7
    have hc7 := f7 _ _ hc6 (by simp)
    refine ⟨q, rfl, ⟨_, SqL.of q7⟩, ?_⟩
    refine for_list (K := K) (a := q) (xs := [V.int x1, .int x2]) (fun j σ H' => ∃ (v9 : Option V) (wl pl : Addr) (least : Int) (A : List (Addr × Addr)) (O : List Ob) (kvs : List (Key × V)) (U : List Snap), σ = [some (.ref a), some (.ref cl2), none, some (.int room), some (.int entries), some (.ref st), some (.ref rl), some (.ref tk), some (.int (1 + (i : Int))), v9] ∧ St2 W.c_Store W.PT_Store_close_up H' st dx wl pl rl tk room entries least A O kvs U (2 * i + j) ∧ U.length ≤ 2 * i + j ∧ H' cl2 = some (.lst (cs.map V.int)) ∧ cl2 ∉ FF st wl pl rl tk A ∧ H' q = some (.lst [.int x1, .int x2]) ∧ q ∉ FF st wl pl rl tk A)
      ⟨_, wl1, pl1, least1, A1, O1, kvs1, U1, rfl, L7, hU6, hc7, cF6, q7, qF⟩ (fun j σ H8 _ hI => ?_) (fun j x σ H8 hx hI => ?_) (fun σ H8 hI => ?_)
    · obtain ⟨_, _, _, _, _, _, _, _, _, _, _, _, _, e, _⟩ := hI
      exact SqL.of e
    · obtain ⟨v9, wl2, pl2, least2, A2, O2, kvs2, U2, rfl, L8, hU8, hc8, cF8, q8, qF8⟩ := hI
      obtain ⟨z, rfl⟩ : ∃ z : Int, x = .int z := by
        rcases List.mem_cons.mp (List.mem_of_getElem? hx) with e | e
        · exact ⟨_, e⟩
        · exact ⟨_, by simpa using e⟩
      have hj : j < 2 := (List.getElem?_eq_some_iff.mp hx).1
      refine ⟨_, rfl, _, rfl, _, rfl, _, rfl, _, rfl, ?_⟩
      refine ⟨(by show 2 ≤ sizeLine; decide), fun li hli => ?_⟩
      have f9 : Fr [] H8 (upd H8 li (.tup [.int room, .int entries])) := Fr.new hli
      have l9 : upd H8 li (.tup [.int room, .int entries]) li = some (.tup [.int room, .int entries]) := upd_same
      generalize upd H8 li (.tup [.int room, .int entries]) = H9 at f9 l9
      have L9 := L8.keep f9
      refine ⟨_, rfl, ?_⟩
      refine ⟨st, dx, wl2, pl2, rl, tk, room, entries, least2, A2, O2, kvs2, U2, 2 * i + j, li, z, rfl, L9, l9, by omega, by omega, hroom, hent, fun H10 wl3 pl3 least3 A3 O3 kvs3 U3 L10 hU10 g10 => ?_⟩
      obtain ⟨hc10, cF10⟩ := g10.stays (f9 _ _ hc8 (by simp)) cF8
      obtain ⟨q10, qF10⟩ := g10.stays (f9 _ _ q8 (by simp)) qF8
      refine ⟨_, rfl, iteF ?_⟩
      exact ⟨_, wl3, pl3, least3, A3, O3, kvs3, U3, rfl, L10, by omega, hc10, cF10, q10, qF10⟩
    · obtain ⟨v9, wl2, pl2, least2, A2, O2, kvs2, U2, rfl, L8, hU8, hc8, cF8, _, _⟩ := hI
      exact ⟨_, _, wl2, pl2, least2, A2, O2, kvs2, U2, rfl, L8, hU8, hc8, cF8⟩
end

end LX
namespace LX
open PySem PySem.Spec PyProof.Rows L2 NdefX

theorem all_mk {l : PySem.W.OpenLaw} {w : World} {K : PySem.W.Frag} {mg : Str → Option Value} {fa : Addr} {h : Heap} (W : Wd l.prog K mg) (hfa : mg "law" = some (.ref fa)) (KX : K.In h) (hP : h.get? W.PT_Store_close_up = some { cls := .none, data := .fields #[] }) :
    LamX.LawAtS l w K CX0 7 63 "_law_script" mg fa h := by
  have e := hfa.symm.trans W.g_law
  cases e
  obtain ⟨oc, od, kV, doc, pm, an, cdv, ct, osl, e, _, _⟩ := W.F_law.ex
  refine ⟨W.fd_law, [(W.cA_Store_close_up, W.PT_Store_close_up)], sp_law2 K W.PT_Store_close_up, fun p hp => ?_, fun p hp => ?_, fun p hp => ?_, fun s v => by rw [e]; exact .of_eq rfl, fun H a ns hl _ hT hS => ⟨a, ns, rfl, hS, hl, LamX.TabS.nil (hT _ (List.mem_singleton.mpr rfl)), fun _ => rfl⟩, fun base _ _ hTB => ok_law ⟨W, hTB _ (List.mem_singleton.mpr rfl)⟩⟩
  · cases List.mem_singleton.mp hp; exact hP
  · cases List.mem_singleton.mp hp; exact W.np_Store_close_up
  · cases List.mem_singleton.mp hp; exact PySem.W.codeHd_of_K KX W.hd_Store_close_up
theorem walk {l : PySem.W.OpenLaw} {q : Program} {loose : List Str} {XP : (Str → Option Value) → Heap → Prop} {YP : World → Heap → Prop} {d : DefRec} {K : Params → PySem.W.Frag} (hn : l.most = some 63) (hdf : d.params.defaults = [])
    (hY : ∀ (w : World) (h : Heap), YP w h → (K w.params).In h)
    (F : ∀ (w : World) (mg : Str → Option Value) (fa : Addr) (h : Heap), YP w h → (K w.params).In h → h.Ns mainGlobals mg → mg d.name = some (.ref fa) → LamX.LawAtS l w (K w.params) CX0 7 63 "_law_script" mg fa h) :
    PySem.W.WalkO q loose XP YP l.row.toRowW d [] (fun f vs => PySem.call f vs) :=
  LamX.walk_ofTs (n := 63) (k := 7) (x := "_law_script") (CX := fun _ => CX0) hn (by decide) hdf ⟨rfl, by decide, by decide⟩ hY F fun _ _ _ _ _ z => z

end LX

open PySem PySem.W PyProof.Rows
set_option maxRecDepth 100000 in
set_option maxHeartbeats 0 in
theorem PySem.Challenge.cw_saggar_k02_store_is_a_list_holds : PySem.Challenge.rw_saggar_k02_store_is_a_list.Holds := by
  w_on; o_law; k_head; (case hw => w_witness2)
  k_fill
  refine LX.walk (l := PySem.Challenge.rw_saggar_k02_store_is_a_list) rfl rfl (fun w h Y => PySem.W.km_in_of Y) ?F
  case F =>
    intro w mg fa h Y KX G hmg
    refine' LX.all_mk (l := PySem.Challenge.rw_saggar_k02_store_is_a_list) (LX.mkW KX G ?z_third ?z_super ?z_top ?z_sg ?z_st ?z_bool ?z_dict ?z_int ?z_isinstance ?z_len ?z_list ?z_min ?z_range ?z_sorted ?z_str ?c_NIL ?c_HEADER ?cl_SaggarError ?cl_NoRoom ?cl_NoNumber ?cl_Store ?pg_Store ?hd_Store ?po_Store ?sa_Store ?mk_Store ?kp_Store ?na_Store_room ?na_Store_entries ?na_Store_words ?na_Store__places ?na_Store__least ?a_NoRoom___init__ ?l_NoRoom___init__ ?c_NoRoom___init__ ?k_NoRoom___init__ ?x1_NoRoom___init__ ?x2_NoRoom___init__ ?x3_NoRoom___init__ ?x4_NoRoom___init__ ?xl_NoRoom ?xr_NoRoom ?xs_NoRoom ?xe_NoRoom ?xt_NoRoom ?xk_NoRoom ?xm_NoRoom ?xi_NoRoom ?xb_NoRoom ?eg_NoRoom ?ek_NoRoom ?ed_NoRoom ?ea_NoRoom ?em_NoRoom ?xn_NoRoom_need ?a_NoNumber___init__ ?l_NoNumber___init__ ?c_NoNumber___init__ ?k_NoNumber___init__ ?x1_NoNumber___init__ ?x2_NoNumber___init__ ?x3_NoNumber___init__ ?x4_NoNumber___init__ ?xl_NoNumber ?xr_NoNumber ?xs_NoNumber ?xe_NoNumber ?xt_NoNumber ?xk_NoNumber ?xm_NoNumber ?xi_NoNumber ?xb_NoNumber ?eg_NoNumber ?ek_NoNumber ?ed_NoNumber ?ea_NoNumber ?em_NoNumber ?xn_NoNumber_limit ?a_Store___init__ ?l_Store___init__ ?c_Store___init__ ?k_Store___init__ ?fn_Store___init__ ?a_Store_used ?l_Store_used ?c_Store_used ?k_Store_used ?fn_Store_used ?a_Store_exists ?l_Store_exists ?c_Store_exists ?k_Store_exists ?fn_Store_exists ?a_Store_numbers ?l_Store_numbers ?c_Store_numbers ?k_Store_numbers ?fn_Store_numbers ?a_Store_free_number ?l_Store_free_number ?c_Store_free_number ?k_Store_free_number ?fn_Store_free_number ?a_Store_allocate ?l_Store_allocate ?c_Store_allocate ?k_Store_allocate ?fn_Store_allocate ?a_Store_size ?l_Store_size ?c_Store_size ?k_Store_size ?fn_Store_size ?a_Store_kind ?l_Store_kind ?c_Store_kind ?k_Store_kind ?fn_Store_kind ?a_Store_set_kind ?l_Store_set_kind ?c_Store_set_kind ?k_Store_set_kind ?fn_Store_set_kind ?a_Store_get ?l_Store_get ?c_Store_get ?k_Store_get ?fn_Store_get ?a_Store_put ?l_Store_put ?c_Store_put ?k_Store_put ?fn_Store_put ?a_Store_slots ?l_Store_slots ?c_Store_slots ?k_Store_slots ?fn_Store_slots ?a_Store_drop ?l_Store_drop ?c_Store_drop ?k_Store_drop ?fn_Store_drop ?a_Store_close_up ?l_Store_close_up ?c_Store_close_up ?k_Store_close_up ?x1_Store_close_up ?x2_Store_close_up ?x3_Store_close_up ?x4_Store_close_up ?fn_Store_close_up ?a_Store_snapshot ?l_Store_snapshot ?c_Store_snapshot ?k_Store_snapshot ?fn_Store_snapshot ?a_Store_restore ?l_Store_restore ?c_Store_restore ?k_Store_restore ?fn_Store_restore ?a_Store_exchange ?l_Store_exchange ?c_Store_exchange ?k_Store_exchange ?fn_Store_exchange ?a__law_number ?l__law_number ?c__law_number ?k__law_number ?a__law_deeds ?l__law_deeds ?c__law_deeds ?k__law_deeds ?a__law_word ?l__law_word ?c__law_word ?k__law_word ?a__law_is ?l__law_is ?c__law_is ?k__law_is ?a__law_same ?l__law_same ?c__law_same ?k__law_same ?a__law_flat ?l__law_flat ?c__law_flat ?k__law_flat ?a__law_living ?l__law_living ?c__law_living ?k__law_living ?a__law_free ?l__law_free ?c__law_free ?k__law_free ?a__law_copy ?l__law_copy ?c__law_copy ?k__law_copy ?a__law_allocated ?l__law_allocated ?c__law_allocated ?k__law_allocated ?a__law_changed ?l__law_changed ?c__law_changed ?k__law_changed ?a__law_agrees ?l__law_agrees ?c__law_agrees ?k__law_agrees ?a__law_deed ?l__law_deed ?c__law_deed ?k__law_deed ?a_law ?l_law ?c_law ?k_law ?qkb_RR ?qkb_NR ?qkb_NN ?qem_RS ?qem_NS ?qem_NN) hmg KX ?hP
    (case z_third => first | k_is | ks_is | rfl | decide +kernel)
    (case z_super => first | k_is | ks_is | rfl | decide +kernel)
    (case z_top => first | k_is | ks_is | rfl | decide +kernel)
    (case z_sg => first | k_is | ks_is | rfl | decide +kernel)
    (case z_st => first | k_is | ks_is | rfl | decide +kernel)
    (case z_bool => first | k_is | ks_is | rfl | decide +kernel)
    (case z_dict => first | k_is | ks_is | rfl | decide +kernel)
    (case z_int => first | k_is | ks_is | rfl | decide +kernel)
    (case z_isinstance => first | k_is | ks_is | rfl | decide +kernel)
    (case z_len => first | k_is | ks_is | rfl | decide +kernel)
    (case z_list => first | k_is | ks_is | rfl | decide +kernel)
    (case z_min => first | k_is | ks_is | rfl | decide +kernel)
    (case z_range => first | k_is | ks_is | rfl | decide +kernel)
    (case z_sorted => first | k_is | ks_is | rfl | decide +kernel)
    (case z_str => first | k_is | ks_is | rfl | decide +kernel)
    (case c_NIL => first | k_is | ks_is | rfl | decide +kernel)
    (case c_HEADER => first | k_is | ks_is | rfl | decide +kernel)
    (case cl_SaggarError => first | k_is | ks_is | rfl | decide +kernel)
    (case cl_NoRoom => first | k_is | ks_is | rfl | decide +kernel)
    (case cl_NoNumber => first | k_is | ks_is | rfl | decide +kernel)
    (case cl_Store => first | k_is | ks_is | rfl | decide +kernel)
    (case pg_Store => first | k_is | ks_is | rfl | decide +kernel)
    (case hd_Store => first | k_is | ks_is | rfl | decide +kernel)
    (case po_Store => first | k_is | ks_is | rfl | decide +kernel)
    (case sa_Store => first | k_is | ks_is | rfl | decide +kernel)
    (case mk_Store => first | k_is | ks_is | rfl | decide +kernel)
    (case kp_Store => first | k_is | ks_is | rfl | decide +kernel)
    (case na_Store_room => first | k_is | ks_is | rfl | decide +kernel)
    (case na_Store_entries => first | k_is | ks_is | rfl | decide +kernel)
    (case na_Store_words => first | k_is | ks_is | rfl | decide +kernel)
    (case na_Store__places => first | k_is | ks_is | rfl | decide +kernel)
    (case na_Store__least => first | k_is | ks_is | rfl | decide +kernel)
    (case a_NoRoom___init__ => first | k_is | ks_is | rfl | decide +kernel)
    (case l_NoRoom___init__ => first | k_is | ks_is | rfl | decide +kernel)
    (case c_NoRoom___init__ => first | k_is | ks_is | rfl | decide +kernel)
    (case k_NoRoom___init__ => first | k_is | ks_is | rfl | decide +kernel)
    (case x1_NoRoom___init__ => first | k_is | ks_is | rfl | decide +kernel)
    (case x2_NoRoom___init__ => first | k_is | ks_is | rfl | decide +kernel)
    (case x3_NoRoom___init__ => first | k_is | ks_is | rfl | decide +kernel)
    (case x4_NoRoom___init__ => first | k_is | ks_is | rfl | decide +kernel)
    (case xl_NoRoom => first | k_is | ks_is | rfl | decide +kernel)
    (case xr_NoRoom => first | k_is | ks_is | rfl | decide +kernel)
    (case xs_NoRoom => first | k_is | ks_is | rfl | decide +kernel)
    (case xe_NoRoom => first | k_is | ks_is | rfl | decide +kernel)
    (case xt_NoRoom => first | k_is | ks_is | rfl | decide +kernel)
    (case xk_NoRoom => first | k_is | ks_is | rfl | decide +kernel)
    (case xm_NoRoom => first | k_is | ks_is | rfl | decide +kernel)
    (case xi_NoRoom => first | k_is | ks_is | rfl | decide +kernel)
    (case xb_NoRoom => first | k_is | ks_is | rfl | decide +kernel)
    (case eg_NoRoom => first | k_is | ks_is | rfl | decide +kernel)
    (case ek_NoRoom => first | k_is | ks_is | rfl | decide +kernel)
    (case ed_NoRoom => first | k_is | ks_is | rfl | decide +kernel)
    (case ea_NoRoom => first | k_is | ks_is | rfl | decide +kernel)
    (case em_NoRoom => first | k_is | ks_is | rfl | decide +kernel)
    (case xn_NoRoom_need => first | k_is | ks_is | rfl | decide +kernel)
    (case a_NoNumber___init__ => first | k_is | ks_is | rfl | decide +kernel)
    (case l_NoNumber___init__ => first | k_is | ks_is | rfl | decide +kernel)
    (case c_NoNumber___init__ => first | k_is | ks_is | rfl | decide +kernel)
    (case k_NoNumber___init__ => first | k_is | ks_is | rfl | decide +kernel)
    (case x1_NoNumber___init__ => first | k_is | ks_is | rfl | decide +kernel)
    (case x2_NoNumber___init__ => first | k_is | ks_is | rfl | decide +kernel)
    (case x3_NoNumber___init__ => first | k_is | ks_is | rfl | decide +kernel)
    (case x4_NoNumber___init__ => first | k_is | ks_is | rfl | decide +kernel)
    (case xl_NoNumber => first | k_is | ks_is | rfl | decide +kernel)
    (case xr_NoNumber => first | k_is | ks_is | rfl | decide +kernel)
    (case xs_NoNumber => first | k_is | ks_is | rfl | decide +kernel)
    (case xe_NoNumber => first | k_is | ks_is | rfl | decide +kernel)
    (case xt_NoNumber => first | k_is | ks_is | rfl | decide +kernel)
    (case xk_NoNumber => first | k_is | ks_is | rfl | decide +kernel)
    (case xm_NoNumber => first | k_is | ks_is | rfl | decide +kernel)
    (case xi_NoNumber => first | k_is | ks_is | rfl | decide +kernel)
    (case xb_NoNumber => first | k_is | ks_is | rfl | decide +kernel)
    (case eg_NoNumber => first | k_is | ks_is | rfl | decide +kernel)
    (case ek_NoNumber => first | k_is | ks_is | rfl | decide +kernel)
    (case ed_NoNumber => first | k_is | ks_is | rfl | decide +kernel)
    (case ea_NoNumber => first | k_is | ks_is | rfl | decide +kernel)
    (case em_NoNumber => first | k_is | ks_is | rfl | decide +kernel)
    (case xn_NoNumber_limit => first | k_is | ks_is | rfl | decide +kernel)
    (case a_Store___init__ => first | k_is | ks_is | rfl | decide +kernel)
    (case l_Store___init__ => first | k_is | ks_is | rfl | decide +kernel)
    (case c_Store___init__ => first | k_is | ks_is | rfl | decide +kernel)
    (case k_Store___init__ => first | k_is | ks_is | rfl | decide +kernel)
    (case fn_Store___init__ => first | k_is | ks_is | rfl | decide +kernel)
    (case a_Store_used => first | k_is | ks_is | rfl | decide +kernel)
    (case l_Store_used => first | k_is | ks_is | rfl | decide +kernel)
    (case c_Store_used => first | k_is | ks_is | rfl | decide +kernel)
    (case k_Store_used => first | k_is | ks_is | rfl | decide +kernel)
    (case fn_Store_used => first | k_is | ks_is | rfl | decide +kernel)
    (case a_Store_exists => first | k_is | ks_is | rfl | decide +kernel)
    (case l_Store_exists => first | k_is | ks_is | rfl | decide +kernel)
    (case c_Store_exists => first | k_is | ks_is | rfl | decide +kernel)
    (case k_Store_exists => first | k_is | ks_is | rfl | decide +kernel)
    (case fn_Store_exists => first | k_is | ks_is | rfl | decide +kernel)
    (case a_Store_numbers => first | k_is | ks_is | rfl | decide +kernel)
    (case l_Store_numbers => first | k_is | ks_is | rfl | decide +kernel)
    (case c_Store_numbers => first | k_is | ks_is | rfl | decide +kernel)
    (case k_Store_numbers => first | k_is | ks_is | rfl | decide +kernel)
    (case fn_Store_numbers => first | k_is | ks_is | rfl | decide +kernel)
    (case a_Store_free_number => first | k_is | ks_is | rfl | decide +kernel)
    (case l_Store_free_number => first | k_is | ks_is | rfl | decide +kernel)
    (case c_Store_free_number => first | k_is | ks_is | rfl | decide +kernel)
    (case k_Store_free_number => first | k_is | ks_is | rfl | decide +kernel)
    (case fn_Store_free_number => first | k_is | ks_is | rfl | decide +kernel)
    (case a_Store_allocate => first | k_is | ks_is | rfl | decide +kernel)
    (case l_Store_allocate => first | k_is | ks_is | rfl | decide +kernel)
    (case c_Store_allocate => first | k_is | ks_is | rfl | decide +kernel)
    (case k_Store_allocate => first | k_is | ks_is | rfl | decide +kernel)
    (case fn_Store_allocate => first | k_is | ks_is | rfl | decide +kernel)
    (case a_Store_size => first | k_is | ks_is | rfl | decide +kernel)
    (case l_Store_size => first | k_is | ks_is | rfl | decide +kernel)
    (case c_Store_size => first | k_is | ks_is | rfl | decide +kernel)
    (case k_Store_size => first | k_is | ks_is | rfl | decide +kernel)
    (case fn_Store_size => first | k_is | ks_is | rfl | decide +kernel)
    (case a_Store_kind => first | k_is | ks_is | rfl | decide +kernel)
    (case l_Store_kind => first | k_is | ks_is | rfl | decide +kernel)
    (case c_Store_kind => first | k_is | ks_is | rfl | decide +kernel)
    (case k_Store_kind => first | k_is | ks_is | rfl | decide +kernel)
    (case fn_Store_kind => first | k_is | ks_is | rfl | decide +kernel)
    (case a_Store_set_kind => first | k_is | ks_is | rfl | decide +kernel)
    (case l_Store_set_kind => first | k_is | ks_is | rfl | decide +kernel)
    (case c_Store_set_kind => first | k_is | ks_is | rfl | decide +kernel)
    (case k_Store_set_kind => first | k_is | ks_is | rfl | decide +kernel)
    (case fn_Store_set_kind => first | k_is | ks_is | rfl | decide +kernel)
    (case a_Store_get => first | k_is | ks_is | rfl | decide +kernel)
    (case l_Store_get => first | k_is | ks_is | rfl | decide +kernel)
    (case c_Store_get => first | k_is | ks_is | rfl | decide +kernel)
    (case k_Store_get => first | k_is | ks_is | rfl | decide +kernel)
    (case fn_Store_get => first | k_is | ks_is | rfl | decide +kernel)
    (case a_Store_put => first | k_is | ks_is | rfl | decide +kernel)
    (case l_Store_put => first | k_is | ks_is | rfl | decide +kernel)
    (case c_Store_put => first | k_is | ks_is | rfl | decide +kernel)
    (case k_Store_put => first | k_is | ks_is | rfl | decide +kernel)
    (case fn_Store_put => first | k_is | ks_is | rfl | decide +kernel)
    (case a_Store_slots => first | k_is | ks_is | rfl | decide +kernel)
    (case l_Store_slots => first | k_is | ks_is | rfl | decide +kernel)
    (case c_Store_slots => first | k_is | ks_is | rfl | decide +kernel)
    (case k_Store_slots => first | k_is | ks_is | rfl | decide +kernel)
    (case fn_Store_slots => first | k_is | ks_is | rfl | decide +kernel)
    (case a_Store_drop => first | k_is | ks_is | rfl | decide +kernel)
    (case l_Store_drop => first | k_is | ks_is | rfl | decide +kernel)
    (case c_Store_drop => first | k_is | ks_is | rfl | decide +kernel)
    (case k_Store_drop => first | k_is | ks_is | rfl | decide +kernel)
    (case fn_Store_drop => first | k_is | ks_is | rfl | decide +kernel)
    (case a_Store_close_up => first | k_is | ks_is | rfl | decide +kernel)
    (case l_Store_close_up => first | k_is | ks_is | rfl | decide +kernel)
    (case c_Store_close_up => first | k_is | ks_is | rfl | decide +kernel)
    (case k_Store_close_up => first | k_is | ks_is | rfl | decide +kernel)
    (case x1_Store_close_up => first | k_is | ks_is | rfl | decide +kernel)
    (case x2_Store_close_up => first | k_is | ks_is | rfl | decide +kernel)
    (case x3_Store_close_up => first | k_is | ks_is | rfl | decide +kernel)
    (case x4_Store_close_up => first | k_is | ks_is | rfl | decide +kernel)
    (case fn_Store_close_up => first | k_is | ks_is | rfl | decide +kernel)
    (case a_Store_snapshot => first | k_is | ks_is | rfl | decide +kernel)
    (case l_Store_snapshot => first | k_is | ks_is | rfl | decide +kernel)
    (case c_Store_snapshot => first | k_is | ks_is | rfl | decide +kernel)
    (case k_Store_snapshot => first | k_is | ks_is | rfl | decide +kernel)
    (case fn_Store_snapshot => first | k_is | ks_is | rfl | decide +kernel)
    (case a_Store_restore => first | k_is | ks_is | rfl | decide +kernel)
    (case l_Store_restore => first | k_is | ks_is | rfl | decide +kernel)
    (case c_Store_restore => first | k_is | ks_is | rfl | decide +kernel)
    (case k_Store_restore => first | k_is | ks_is | rfl | decide +kernel)
    (case fn_Store_restore => first | k_is | ks_is | rfl | decide +kernel)
    (case a_Store_exchange => first | k_is | ks_is | rfl | decide +kernel)
    (case l_Store_exchange => first | k_is | ks_is | rfl | decide +kernel)
    (case c_Store_exchange => first | k_is | ks_is | rfl | decide +kernel)
    (case k_Store_exchange => first | k_is | ks_is | rfl | decide +kernel)
    (case fn_Store_exchange => first | k_is | ks_is | rfl | decide +kernel)
    (case a__law_number => first | k_is | ks_is | rfl | decide +kernel)
    (case l__law_number => first | k_is | ks_is | rfl | decide +kernel)
    (case c__law_number => first | k_is | ks_is | rfl | decide +kernel)
    (case k__law_number => first | k_is | ks_is | rfl | decide +kernel)
    (case a__law_deeds => first | k_is | ks_is | rfl | decide +kernel)
    (case l__law_deeds => first | k_is | ks_is | rfl | decide +kernel)
    (case c__law_deeds => first | k_is | ks_is | rfl | decide +kernel)
    (case k__law_deeds => first | k_is | ks_is | rfl | decide +kernel)
    (case a__law_word => first | k_is | ks_is | rfl | decide +kernel)
    (case l__law_word => first | k_is | ks_is | rfl | decide +kernel)
    (case c__law_word => first | k_is | ks_is | rfl | decide +kernel)
    (case k__law_word => first | k_is | ks_is | rfl | decide +kernel)
    (case a__law_is => first | k_is | ks_is | rfl | decide +kernel)
    (case l__law_is => first | k_is | ks_is | rfl | decide +kernel)
    (case c__law_is => first | k_is | ks_is | rfl | decide +kernel)
    (case k__law_is => first | k_is | ks_is | rfl | decide +kernel)
    (case a__law_same => first | k_is | ks_is | rfl | decide +kernel)
    (case l__law_same => first | k_is | ks_is | rfl | decide +kernel)
    (case c__law_same => first | k_is | ks_is | rfl | decide +kernel)
    (case k__law_same => first | k_is | ks_is | rfl | decide +kernel)
    (case a__law_flat => first | k_is | ks_is | rfl | decide +kernel)
    (case l__law_flat => first | k_is | ks_is | rfl | decide +kernel)
    (case c__law_flat => first | k_is | ks_is | rfl | decide +kernel)
    (case k__law_flat => first | k_is | ks_is | rfl | decide +kernel)
    (case a__law_living => first | k_is | ks_is | rfl | decide +kernel)
    (case l__law_living => first | k_is | ks_is | rfl | decide +kernel)
    (case c__law_living => first | k_is | ks_is | rfl | decide +kernel)
    (case k__law_living => first | k_is | ks_is | rfl | decide +kernel)
    (case a__law_free => first | k_is | ks_is | rfl | decide +kernel)
    (case l__law_free => first | k_is | ks_is | rfl | decide +kernel)
    (case c__law_free => first | k_is | ks_is | rfl | decide +kernel)
    (case k__law_free => first | k_is | ks_is | rfl | decide +kernel)
    (case a__law_copy => first | k_is | ks_is | rfl | decide +kernel)
    (case l__law_copy => first | k_is | ks_is | rfl | decide +kernel)
    (case c__law_copy => first | k_is | ks_is | rfl | decide +kernel)
    (case k__law_copy => first | k_is | ks_is | rfl | decide +kernel)
    (case a__law_allocated => first | k_is | ks_is | rfl | decide +kernel)
    (case l__law_allocated => first | k_is | ks_is | rfl | decide +kernel)
    (case c__law_allocated => first | k_is | ks_is | rfl | decide +kernel)
    (case k__law_allocated => first | k_is | ks_is | rfl | decide +kernel)
    (case a__law_changed => first | k_is | ks_is | rfl | decide +kernel)
    (case l__law_changed => first | k_is | ks_is | rfl | decide +kernel)
    (case c__law_changed => first | k_is | ks_is | rfl | decide +kernel)
    (case k__law_changed => first | k_is | ks_is | rfl | decide +kernel)
    (case a__law_agrees => first | k_is | ks_is | rfl | decide +kernel)
    (case l__law_agrees => first | k_is | ks_is | rfl | decide +kernel)
    (case c__law_agrees => first | k_is | ks_is | rfl | decide +kernel)
    (case k__law_agrees => first | k_is | ks_is | rfl | decide +kernel)
    (case a__law_deed => first | k_is | ks_is | rfl | decide +kernel)
    (case l__law_deed => first | k_is | ks_is | rfl | decide +kernel)
    (case c__law_deed => first | k_is | ks_is | rfl | decide +kernel)
    (case k__law_deed => first | k_is | ks_is | rfl | decide +kernel)
    (case a_law => first | k_is | ks_is | rfl | decide +kernel)
    (case l_law => first | k_is | ks_is | rfl | decide +kernel)
    (case c_law => first | k_is | ks_is | rfl | decide +kernel)
    (case k_law => first | k_is | ks_is | rfl | decide +kernel)
    (case qkb_RR => first | k_is | ks_is | rfl | decide +kernel)
    (case qkb_NR => first | k_is | ks_is | rfl | decide +kernel)
    (case qkb_NN => first | k_is | ks_is | rfl | decide +kernel)
    (case qem_RS => first | k_is | ks_is | rfl | decide +kernel)
    (case qem_NS => first | k_is | ks_is | rfl | decide +kernel)
    (case qem_NN => first | k_is | ks_is | rfl | decide +kernel)
    (case hP => exact PySem.W.km_tabs_of Y _ (by first | k_mem | simp))
    all_goals exact PySem.Value.none

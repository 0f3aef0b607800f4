import PyProof.Rows.All
import Wide.All
import OpenK.AllK
import Wide.FinOn
import KE.KExcSuper
import HandS.ForMost
import HandS.ForExc
import HandS.ExcInit
import HandS.Nested
import HandS.Flow
import HandS.IsInst
import HandS.Wide
import HandS.StrMore
import HandS.RaiseMore
import HandS.TupAny
import HandS.Style
import HandS.NoneIn
import HandS.Conv
import HandS.Deep
import HandS.Small
import HandS.Evl
import HandS.SortInts
import HandS.More
import KE.SortData
import HandS.HotCalls
import HandS.ExcCtx
import HandS.ExcField
import HandS.ExcIs
import KE.KExcIs
import HandS.TryMany
import HandS.HeadWalk
import PyProof.StrOps2
import HandS.Defaults
import HandS.Flt
import PyProof.ReprRoads
import HandS.Ends
import PyProof.Rows.RegFStrParts
import HandS.Strs
import HandS.Set
import KE.IntTextText
import KE.KIntText
import KE.IntTextLaws
import HandS.ReplaceLit
import HandS.ReplaceList
import PySem.Challenge.RW_saggar_k52_plans_of_changes
set_option Elab.async false
set_option linter.all false
set_option maxRecDepth 100000
set_option maxHeartbeats 4000000
/-! universal rules: by the values' constructors -/
namespace LX
open PySem PySem.Spec PyProof.Rows L2
section
variable {X : Cx}
/-! ### operators -/
def rAddU (K : PySem.W.Frag) : R2 := fun x y H Q => match x, y with
  | .int i, .int j => Q (.int (i + j)) H
  | .str i, .str j => i.length + j.length ≤ sizeLine ∧ Q (.str (i ++ j)) H
  | .ref a, .ref b => rCat (.ref a) (.ref b) H Q ∨ rCatA K (.ref a) (.ref b) H Q
  | _, _ => False
theorem op_addU : OpR X (binaryOp .Add) (rAddU X.K) := by
  intro pins s σ H x y v u Q I rx ry h
  unfold rAddU at h
  split at h
  · exact op_add pins s σ H _ _ v u Q I rx ry ⟨_, _, rfl, rfl, h⟩
  · exact op_add_str pins s σ H _ _ v u Q I rx ry ⟨_, _, rfl, rfl, h.1, h.2⟩
  · rcases h with h | h
    · exact op_cat pins s σ H _ _ v u Q I rx ry h
    · exact op_catA pins s σ H _ _ v u Q I rx ry h
  · exact h.elim
def rMulU : R2 := fun x y H Q => match x, y with
  | .int i, .int j => CMul i j ∧ Q (.int (i * j)) H
  | .ref a, .int j => rRep (.ref a) (.int j) H Q
  | _, _ => False
theorem op_mulU : OpR X (binaryOp .Mult) rMulU := by
  intro pins s σ H x y v u Q I rx ry h
  unfold rMulU at h
  split at h
  · exact op_mul pins s σ H _ _ v u Q I rx ry ⟨_, _, rfl, rfl, h.1, h.2⟩
  · exact op_rep pins s σ H _ _ v u Q I rx ry h
  · exact h.elim
/-- an order by ints, by texts -/
def rOrd (f : Int → Int → Bool) (g : List Nat → List Nat → Bool) : R2 := fun x y H Q => match x, y with
  | .int i, .int j => Q (.bl (f i j)) H
  | .str i, .str j => Q (.bl (g i.cps.toList j.cps.toList)) H
  | _, _ => False
abbrev rLtU : R2 := rOrd (fun i j => decide (i < j)) (fun i j => decide (i < j))
abbrev rLeU : R2 := rOrd (fun i j => decide (i ≤ j)) (fun i j => !decide (j < i))
abbrev rGtU : R2 := rOrd (fun i j => decide (j < i)) (fun i j => decide (j < i))
abbrev rGeU : R2 := rOrd (fun i j => decide (j ≤ i)) (fun i j => !decide (i < j))
theorem op_ltU : OpR X (compareOp .Lt) rLtU := by
  intro pins s σ H x y v u Q I rx ry h
  unfold rLtU rOrd at h
  split at h
  · exact op_lt pins s σ H _ _ v u Q I rx ry ⟨_, _, rfl, rfl, h⟩
  · exact op_lt_str pins s σ H _ _ v u Q I rx ry ⟨_, _, rfl, rfl, h⟩
  · exact h.elim
theorem op_leU : OpR X (compareOp .LtE) rLeU := by
  intro pins s σ H x y v u Q I rx ry h
  unfold rLeU rOrd at h
  split at h
  · exact op_le pins s σ H _ _ v u Q I rx ry ⟨_, _, rfl, rfl, h⟩
  · exact op_le_str pins s σ H _ _ v u Q I rx ry ⟨_, _, rfl, rfl, h⟩
  · exact h.elim
theorem op_gtU : OpR X (compareOp .Gt) rGtU := by
  intro pins s σ H x y v u Q I rx ry h
  unfold rGtU rOrd at h
  split at h
  · exact op_gt pins s σ H _ _ v u Q I rx ry ⟨_, _, rfl, rfl, h⟩
  · exact op_gt_str pins s σ H _ _ v u Q I rx ry ⟨_, _, rfl, rfl, h⟩
  · exact h.elim
theorem op_geU : OpR X (compareOp .GtE) rGeU := by
  intro pins s σ H x y v u Q I rx ry h
  unfold rGeU rOrd at h
  split at h
  · exact op_ge pins s σ H _ _ v u Q I rx ry ⟨_, _, rfl, rfl, h⟩
  · exact op_ge_str pins s σ H _ _ v u Q I rx ry ⟨_, _, rfl, rfl, h⟩
  · exact h.elim
/-- ==, != : two objects (deep), else by value -/
def rEqU (K : PySem.W.Frag) (g : Bool → Bool) : R2 := fun x y H Q => match x, y with
  | .ref a, .ref b => ∃ d e, Dp K H (.ref a) d ∧ Dp K H (.ref b) e ∧ SeqAt.shaped d = true ∧ SeqAt.shaped e = true ∧ Q (.bl (g (PyData.eqv d e))) H
  | x, y => scal x y = true ∧ Q (.bl (g (decide (x = y)))) H
theorem op_eqU (hu : X.A.units + 64 < cLine) : OpR X (compareOp .Eq) (rEqU X.K id) := by
  intro pins s σ H x y v u Q I rx ry h
  unfold rEqU at h
  split at h
  · exact op_eqD hu pins s σ H _ _ v u Q I rx ry h
  · exact op_eq pins s σ H _ _ v u Q I rx ry h
theorem op_neU (hu : X.A.units + 64 < cLine) : OpR X (compareOp .NotEq) (rEqU X.K (!·)) := by
  intro pins s σ H x y v u Q I rx ry h
  unfold rEqU at h
  split at h
  · exact op_neD hu pins s σ H _ _ v u Q I rx ry h
  · exact op_ne pins s σ H _ _ v u Q I rx ry h
/-- x is None, True, False -/
def rIsU (g : Bool → Bool) : R2 := fun x y H Q => match y with
  | .non => Q (.bl (g (decide (x = .non)))) H
  | .bl b => Q (.bl (g (decide (x = .bl b)))) H
  | _ => False
theorem op_isU : OpR X (compareOp .Is) (rIsU id) := by
  intro pins s σ H x y v u Q I rx ry h
  unfold rIsU at h
  split at h
  · exact op_isN pins s σ H _ _ v u Q I rx ry ⟨rfl, h⟩
  · rename_i b
    cases (show u = Value.bool b from ry)
    by_cases e : x = .bl b
    · subst e
      cases (show v = Value.bool b from rx)
      exact wpAny_is_self rfl ⟨.bl true, H, I, rfl, by simpa using h⟩
    · refine wpAny_is_other ?_ ?_ ⟨.bl false, H, I, rfl, by simpa [e] using h⟩
      · first | rfl | (cases x <;> first | rfl | (cases rx; rfl) | (obtain ⟨t, rfl⟩ := rx; rfl))
      · intro z
        subst z
        exact e (RelV.inj rx rfl)
  · exact h.elim
theorem op_isnotU : OpR X (compareOp .IsNot) (rIsU (!·)) := by
  intro pins s σ H x y v u Q I rx ry h
  unfold rIsU at h
  split at h
  · exact op_notN pins s σ H _ _ v u Q I rx ry ⟨rfl, h⟩
  · rename_i b
    cases (show u = Value.bool b from ry)
    by_cases e : x = .bl b
    · subst e
      cases (show v = Value.bool b from rx)
      exact wpAny_isNot_self rfl ⟨.bl false, H, I, rfl, by simpa using h⟩
    · refine wpAny_isNot_other ?_ ?_ ⟨.bl true, H, I, rfl, by simpa [e] using h⟩
      · first | rfl | (cases x <;> first | rfl | (cases rx; rfl) | (obtain ⟨t, rfl⟩ := rx; rfl))
      · intro z
        subst z
        exact e (RelV.inj rx rfl)
  · exact h.elim
/-! ### subscripts, slices, in -/
def rIxU (K : PySem.W.Frag) : R2 := fun x y H Q => match x with
  | .str z => ∃ i c, y = .int i ∧ z.length ≤ sizeLine ∧ atI z.cps.toList i = some c ∧ Q (.str ⟨#[c]⟩) H
  | .ref p => (∃ xs i v, y = .int i ∧ (SqL K H p xs ∨ SqT K H p xs) ∧ atI xs i = some v ∧ Q v H) ∨ (∃ v, DGet H p y (some v) ∧ Q v H)
  | _ => False
theorem ix_U (hu : X.A.units + 1 < cLine) : IxR X (rIxU X.K) := by
  intro value slice pins s σ H x y v u Q I rx ry h hs
  unfold rIxU at h
  split at h
  · obtain ⟨i, c, rfl, h1, h2, q⟩ := h
    exact ix_str value slice pins s σ H _ _ v u Q I rx ry ⟨_, _, _, rfl, rfl, h1, h2, q⟩ hs
  · rcases h with ⟨xs, i, w', rfl, h1 | h1, h2, q⟩ | ⟨w', g, q⟩
    · exact ix_list value slice pins s σ H _ _ v u Q I rx ry ⟨_, _, _, _, rfl, rfl, h1, h2, q⟩ hs
    · exact ix_tup value slice pins s σ H _ _ v u Q I rx ry ⟨_, _, _, _, rfl, rfl, h1, h2, q⟩ hs
    · rename_i p
      obtain rfl : v = Value.ref p := rx
      exact tail_any (dict_typeIs I g) PySem.F.slot_dict_getitem.lookup (d_getItem hu I g ry fun w2 s2 I2 rw2 => ⟨w', H, I2, rw2, q⟩) hs
  · exact h.elim
def rSlU (K : PySem.W.Frag) : V → Option Int → Option Int → Hp → VK → Prop := fun x lo hi H Q => match x with
  | .str z => z.length ≤ sizeLine ∧ Q (.str (cutS z lo hi)) H
  | .ref a => rSlL K (.ref a) lo hi H Q ∨ rSlA K (.ref a) lo hi H Q
  | _ => False
theorem sl_U : SlR X (rSlU X.K) := by
  intro pins s σ H x v vl vu lo hi sl Q I rx hs pl pu h
  unfold rSlU at h
  split at h
  · exact sl_str pins s σ H _ v vl vu lo hi sl Q I rx hs pl pu ⟨_, rfl, h.1, h.2⟩
  · rcases h with h | h
    · exact sl_list pins s σ H _ v vl vu lo hi sl Q I rx hs pl pu h
    · exact sl_tupA pins s σ H _ v vl vu lo hi sl Q I rx hs pl pu h
  · exact h.elim
/-- in, not in -/
def rInU (K : PySem.W.Frag) (g : Bool → Bool) : R2 := fun x y H Q => match y with
  | .str z => (∃ c : Nat, x = .str ⟨#[c]⟩ ∧ Q (.bl (g (decide (c ∈ z.cps.toList)))) H) ∨ ∃ i, x = .str i ∧ Q (.bl (g (!(Builtin.Str.occurrences z i 0 z.length 1).isEmpty))) H
  | .ref p => (∃ xs, (SqL K H p xs ∨ SqT K H p xs) ∧ flatV x = true ∧ xs.all flatV = true ∧ Q (.bl (g (inV x xs))) H) ∨ (∃ o, DGet H p x o ∧ Q (.bl (g o.isSome)) H)
  | _ => False
theorem op_inU (hu : X.A.units + 1 < cLine) : OpR X (compareOp .In) (rInU X.K id) := by
  intro pins s σ H x y v u Q I rx ry h
  unfold rInU at h
  split at h
  · rcases h with ⟨c, rfl, q⟩ | ⟨i, rfl, q⟩
    · exact op_in_sign pins s σ H _ _ v u Q I rx ry ⟨_, _, rfl, rfl, q⟩
    · exact op_in_str pins s σ H _ _ v u Q I rx ry ⟨_, _, rfl, rfl, q⟩
  · rcases h with ⟨xs, h1, h2, h3, q⟩ | ⟨o, g, q⟩
    · exact op_in_seq pins s σ H _ _ v u Q I rx ry ⟨_, xs, rfl, h1, h2, h3, q⟩
    · rename_i p
      obtain rfl : u = Value.ref p := ry
      exact d_in hu I g rx fun s3 I3 => ⟨.bl o.isSome, H, I3, rfl, q⟩
  · exact h.elim
theorem op_ninU (hu : X.A.units + 1 < cLine) : OpR X (compareOp .NotIn) (rInU X.K (!·)) := by
  intro pins s σ H x y v u Q I rx ry h
  unfold rInU at h
  split at h
  · rcases h with ⟨c, rfl, q⟩ | ⟨i, rfl, q⟩
    · exact op_notIn_sign pins s σ H _ _ v u Q I rx ry ⟨_, _, rfl, rfl, q⟩
    · exact op_notin_str pins s σ H _ _ v u Q I rx ry ⟨_, _, rfl, rfl, q⟩
  · rcases h with ⟨xs, h1, h2, h3, q⟩ | ⟨o, g, q⟩
    · exact op_notIn_seq pins s σ H _ _ v u Q I rx ry ⟨_, xs, rfl, h1, h2, h3, q⟩
    · rename_i p
      obtain rfl : u = Value.ref p := ry
      exact d_notIn hu I g rx fun s3 I3 => ⟨.bl (!o.isSome), H, I3, rfl, q⟩
  · exact h.elim
/-! ### calls -/
def rLenU (K : PySem.W.Frag) : List V → Hp → VK → Prop := fun xs H Q => match xs with
  | [.str z] => z.length ≤ sizeLine ∧ Q (.int z.length) H
  | [.ref p] => (∃ ys, (SqL K H p ys ∨ SqT K H p ys) ∧ Q (.int ys.length) H) ∨ ∃ kvs, H p = some (.dK kvs) ∧ Q (.int kvs.length) H
  | _ => False
theorem call_lenU : CallR X (.builtin "len") (rLenU X.K) := by
  intro pins s σ H xs us Q I r h
  unfold rLenU at h
  split at h
  · exact call_len_str pins s σ H _ us Q I r ⟨_, rfl, h.1, h.2⟩
  · rcases h with ⟨ys, h1, q⟩ | ⟨kvs, h1, q⟩
    · exact call_len_seq pins s σ H _ us Q I r ⟨_, ys, rfl, h1, q⟩
    · exact call_lenD pins s σ H _ us Q I r ⟨_, kvs, rfl, h1, q⟩
  · exact h.elim
def rIntU : List V → Hp → VK → Prop := fun xs H Q => match xs with
  | [.int i] => Q (.int i) H
  | [.bl k] => Q (.int (if k then 1 else 0)) H
  | [.str a] => ∃ n, PySem.intText? a = some n ∧ a.length ≤ 640 ∧ Q (.int n) H
  | _ => False
theorem call_intU : CallR X (.type "int") rIntU := by
  intro pins s σ H xs us Q I r h
  unfold rIntU at h
  split at h
  · exact call_int1 pins s σ H _ us Q I r (.inl ⟨_, rfl, h⟩)
  · exact call_int1 pins s σ H _ us Q I r (.inr ⟨_, rfl, h⟩)
  · obtain ⟨n, h1, h2, q⟩ := h
    exact call_int_str pins s σ H _ us Q I r ⟨_, n, rfl, h1, h2, q⟩
  · exact h.elim
def rStrU : List V → Hp → VK → Prop := fun xs H Q => match xs with
  | [.int i] => i.natAbs.log2 < 1920 ∧ Q (.str (toString i)) H
  | [.str a] => Q (.str a) H
  | _ => False
theorem call_strU : CallR X (.type "str") rStrU := by
  intro pins s σ H xs us Q I r h
  unfold rStrU at h
  split at h
  · exact call_str_int pins s σ H _ us Q I r ⟨_, rfl, h.1, h.2⟩
  · exact SkE.call_str_str pins s σ H _ us Q I r ⟨_, rfl, h⟩
  · exact h.elim
/-- isinstance: a built-in type or an own class -/
def rIsU2 (K : PySem.W.Frag) : List V → Hp → VK → Prop := fun xs H Q => ∃ (x c : V) (t u : Value) (b : Bool), xs = [x, c] ∧ ClsV c u ∧ TyX K H x t ∧ PySem.W.kitOne K t u = some b ∧ Q (.bl b) H
end
theorem hu64_of {A : Around} {k : Nat} (hr : Room k A) : A.units + 64 < cLine := by have := hr.un; omega
theorem ite_eq {c d : Bool} {A B : Prop} (e : c = d) (h : if d = true then A else B) : if c = true then A else B := by rw [e]; exact h
theorem iteD {c : Prop} [Decidable c] {A B : Prop} (h1 : c → A) (h2 : ¬ c → B) : if decide c = true then A else B := by
  by_cases h : c
  · rw [decide_eq_true h]; exact iteT (h1 h)
  · rw [decide_eq_false h]; exact iteF (h2 h)
theorem iteND {c : Prop} [Decidable c] {A B : Prop} (h1 : ¬ c → A) (h2 : c → B) : if (!decide c) = true then A else B := by
  by_cases h : c
  · rw [decide_eq_true h]; exact iteF (h2 h)
  · rw [decide_eq_false h]; exact iteT (h1 h)
/-- a text by its signs -/
abbrev T (l : List Nat) : Str := ⟨l.toArray⟩
theorem T_of (z : Str) : z = T z.cps.toList := rfl
theorem T_inj {a b : List Nat} (h : T a = T b) : a = b := congrArg (fun x : Str => x.cps.toList) h
theorem T_app (a b : List Nat) : T a ++ T b = T (a ++ b) := by
  show (⟨a.toArray ++ b.toArray⟩ : Str) = ⟨(a ++ b).toArray⟩
  simp
theorem T_dec (a b : List Nat) : decide (V.str (T a) = V.str (T b)) = decide (a = b) := by
  by_cases h : a = b
  · subst h; simp
  · have : ¬ V.str (T a) = V.str (T b) := fun z => h (T_inj (V.str.inj z))
    rw [decide_eq_false this, decide_eq_false h]
theorem I_dec (a b : Int) : decide (V.int a = V.int b) = decide (a = b) := by
  by_cases h : a = b
  · subst h; simp
  · have : ¬ V.int a = V.int b := fun z => h (V.int.inj z)
    rw [decide_eq_false this, decide_eq_false h]
theorem B_dec (a b : Bool) : decide (V.bl a = V.bl b) = (a == b) := by cases a <;> cases b <;> rfl
theorem pe_strT {X : Cx} {x : Str} {l : List Nat} {j : Nat} {pos : Pos} (e : x = T l) : PE X (.Constant (.str x) j pos) (tC (.str (T l))) := by subst e; exact pe_str
theorem pv_some {X : Cx} : True := True.intro
theorem bb_len : bootBuiltins "len" = some (.builtin "len") := by first | rfl | decide +kernel
theorem bb_isinstance : bootBuiltins "isinstance" = some (.builtin "isinstance") := by first | rfl | decide +kernel
theorem bb_abs : bootBuiltins "abs" = some (.builtin "abs") := by first | rfl | decide +kernel
theorem bb_sorted : bootBuiltins "sorted" = some (.builtin "sorted") := by first | rfl | decide +kernel
theorem bb_min : bootBuiltins "min" = some (.builtin "min") := by first | rfl | decide +kernel
theorem bb_max : bootBuiltins "max" = some (.builtin "max") := by first | rfl | decide +kernel
theorem bb_sum : bootBuiltins "sum" = some (.builtin "sum") := by first | rfl | decide +kernel
theorem bb_all : bootBuiltins "all" = some (.builtin "all") := by first | rfl | decide +kernel
theorem bb_any : bootBuiltins "any" = some (.builtin "any") := by first | rfl | decide +kernel
theorem bb_repr : bootBuiltins "repr" = some (.builtin "repr") := by first | rfl | decide +kernel
theorem bb_int : bootBuiltins "int" = some (.type "int") := by first | rfl | decide +kernel
theorem bb_str : bootBuiltins "str" = some (.type "str") := by first | rfl | decide +kernel
theorem bb_bool : bootBuiltins "bool" = some (.type "bool") := by first | rfl | decide +kernel
theorem bb_list : bootBuiltins "list" = some (.type "list") := by first | rfl | decide +kernel
theorem bb_dict : bootBuiltins "dict" = some (.type "dict") := by first | rfl | decide +kernel
theorem bb_tuple : bootBuiltins "tuple" = some (.type "tuple") := by first | rfl | decide +kernel
theorem bb_set : bootBuiltins "set" = some (.type "set") := by first | rfl | decide +kernel
theorem bb_ValueError : bootBuiltins "ValueError" = some (.type "ValueError") := by first | rfl | decide +kernel
theorem pe_gi {X : Cx} {x : Str} {z : Int} {t : Tok} {pos : Pos} (hg : Gl X x) (hm : X.mg x = some (.int z t)) (hd : (x == ("__debug__" : Str)) = false := by decide) : PE X (.Name x pos) (tC (.int z)) := pe_glob hg hm ⟨_, rfl⟩ hd
theorem pe_gs {X : Cx} {x : Str} {z : Str} {t : Tok} {pos : Pos} (hg : Gl X x) (hm : X.mg x = some (.str z t)) (hd : (x == ("__debug__" : Str)) = false := by decide) : PE X (.Name x pos) (tC (.str z)) := pe_glob hg hm ⟨_, rfl⟩ hd
theorem pe_gr {X : Cx} {x : Str} {a : Addr} {pos : Pos} (hg : Gl X x) (hm : X.mg x = some (.ref a)) (hd : (x == ("__debug__" : Str)) = false := by decide) : PE X (.Name x pos) (tC (.ref a)) := pe_glob hg hm rfl hd
theorem pe_bt {X : Cx} {x : Str} {n : String} {pos : Pos} (hg : Gl X x) (hm : X.mg x = none) (hv : bootBuiltins x = some (.type n)) (hn : x ≠ "__name__" := by decide) (hd : (x == ("__debug__" : Str)) = false := by decide) : PE X (.Name x pos) (tC (.ty n)) := pe_bltn hg hm hv rfl hn hd
/-! isinstance against built-in types -/
theorem kt_int_int {K : PySem.W.Frag} : PySem.W.kitOne K (.type "int") (.type "int") = some true := kit_ty (by decide +kernel)
theorem kt_int_bool {K : PySem.W.Frag} : PySem.W.kitOne K (.type "int") (.type "bool") = some false := kit_ty (by decide +kernel)
theorem kt_int_str {K : PySem.W.Frag} : PySem.W.kitOne K (.type "int") (.type "str") = some false := kit_ty (by decide +kernel)
theorem kt_int_list {K : PySem.W.Frag} : PySem.W.kitOne K (.type "int") (.type "list") = some false := kit_ty (by decide +kernel)
theorem kt_int_tuple {K : PySem.W.Frag} : PySem.W.kitOne K (.type "int") (.type "tuple") = some false := kit_ty (by decide +kernel)
theorem kt_int_dict {K : PySem.W.Frag} : PySem.W.kitOne K (.type "int") (.type "dict") = some false := kit_ty (by decide +kernel)
theorem kt_bool_int {K : PySem.W.Frag} : PySem.W.kitOne K (.type "bool") (.type "int") = some true := kit_ty (by decide +kernel)
theorem kt_bool_bool {K : PySem.W.Frag} : PySem.W.kitOne K (.type "bool") (.type "bool") = some true := kit_ty (by decide +kernel)
theorem kt_bool_str {K : PySem.W.Frag} : PySem.W.kitOne K (.type "bool") (.type "str") = some false := kit_ty (by decide +kernel)
theorem kt_bool_list {K : PySem.W.Frag} : PySem.W.kitOne K (.type "bool") (.type "list") = some false := kit_ty (by decide +kernel)
theorem kt_bool_tuple {K : PySem.W.Frag} : PySem.W.kitOne K (.type "bool") (.type "tuple") = some false := kit_ty (by decide +kernel)
theorem kt_bool_dict {K : PySem.W.Frag} : PySem.W.kitOne K (.type "bool") (.type "dict") = some false := kit_ty (by decide +kernel)
theorem kt_str_int {K : PySem.W.Frag} : PySem.W.kitOne K (.type "str") (.type "int") = some false := kit_ty (by decide +kernel)
theorem kt_str_bool {K : PySem.W.Frag} : PySem.W.kitOne K (.type "str") (.type "bool") = some false := kit_ty (by decide +kernel)
theorem kt_str_str {K : PySem.W.Frag} : PySem.W.kitOne K (.type "str") (.type "str") = some true := kit_ty (by decide +kernel)
theorem kt_str_list {K : PySem.W.Frag} : PySem.W.kitOne K (.type "str") (.type "list") = some false := kit_ty (by decide +kernel)
theorem kt_str_tuple {K : PySem.W.Frag} : PySem.W.kitOne K (.type "str") (.type "tuple") = some false := kit_ty (by decide +kernel)
theorem kt_str_dict {K : PySem.W.Frag} : PySem.W.kitOne K (.type "str") (.type "dict") = some false := kit_ty (by decide +kernel)
theorem kt_list_int {K : PySem.W.Frag} : PySem.W.kitOne K (.type "list") (.type "int") = some false := kit_ty (by decide +kernel)
theorem kt_list_bool {K : PySem.W.Frag} : PySem.W.kitOne K (.type "list") (.type "bool") = some false := kit_ty (by decide +kernel)
theorem kt_list_str {K : PySem.W.Frag} : PySem.W.kitOne K (.type "list") (.type "str") = some false := kit_ty (by decide +kernel)
theorem kt_list_list {K : PySem.W.Frag} : PySem.W.kitOne K (.type "list") (.type "list") = some true := kit_ty (by decide +kernel)
theorem kt_list_tuple {K : PySem.W.Frag} : PySem.W.kitOne K (.type "list") (.type "tuple") = some false := kit_ty (by decide +kernel)
theorem kt_list_dict {K : PySem.W.Frag} : PySem.W.kitOne K (.type "list") (.type "dict") = some false := kit_ty (by decide +kernel)
theorem kt_tuple_int {K : PySem.W.Frag} : PySem.W.kitOne K (.type "tuple") (.type "int") = some false := kit_ty (by decide +kernel)
theorem kt_tuple_bool {K : PySem.W.Frag} : PySem.W.kitOne K (.type "tuple") (.type "bool") = some false := kit_ty (by decide +kernel)
theorem kt_tuple_str {K : PySem.W.Frag} : PySem.W.kitOne K (.type "tuple") (.type "str") = some false := kit_ty (by decide +kernel)
theorem kt_tuple_list {K : PySem.W.Frag} : PySem.W.kitOne K (.type "tuple") (.type "list") = some false := kit_ty (by decide +kernel)
theorem kt_tuple_tuple {K : PySem.W.Frag} : PySem.W.kitOne K (.type "tuple") (.type "tuple") = some true := kit_ty (by decide +kernel)
theorem kt_tuple_dict {K : PySem.W.Frag} : PySem.W.kitOne K (.type "tuple") (.type "dict") = some false := kit_ty (by decide +kernel)
theorem kt_dict_int {K : PySem.W.Frag} : PySem.W.kitOne K (.type "dict") (.type "int") = some false := kit_ty (by decide +kernel)
theorem kt_dict_bool {K : PySem.W.Frag} : PySem.W.kitOne K (.type "dict") (.type "bool") = some false := kit_ty (by decide +kernel)
theorem kt_dict_str {K : PySem.W.Frag} : PySem.W.kitOne K (.type "dict") (.type "str") = some false := kit_ty (by decide +kernel)
theorem kt_dict_list {K : PySem.W.Frag} : PySem.W.kitOne K (.type "dict") (.type "list") = some false := kit_ty (by decide +kernel)
theorem kt_dict_tuple {K : PySem.W.Frag} : PySem.W.kitOne K (.type "dict") (.type "tuple") = some false := kit_ty (by decide +kernel)
theorem kt_dict_dict {K : PySem.W.Frag} : PySem.W.kitOne K (.type "dict") (.type "dict") = some true := kit_ty (by decide +kernel)
theorem kt_NoneType_int {K : PySem.W.Frag} : PySem.W.kitOne K (.type "NoneType") (.type "int") = some false := kit_ty (by decide +kernel)
theorem kt_NoneType_bool {K : PySem.W.Frag} : PySem.W.kitOne K (.type "NoneType") (.type "bool") = some false := kit_ty (by decide +kernel)
theorem kt_NoneType_str {K : PySem.W.Frag} : PySem.W.kitOne K (.type "NoneType") (.type "str") = some false := kit_ty (by decide +kernel)
theorem kt_NoneType_list {K : PySem.W.Frag} : PySem.W.kitOne K (.type "NoneType") (.type "list") = some false := kit_ty (by decide +kernel)
theorem kt_NoneType_tuple {K : PySem.W.Frag} : PySem.W.kitOne K (.type "NoneType") (.type "tuple") = some false := kit_ty (by decide +kernel)
theorem kt_NoneType_dict {K : PySem.W.Frag} : PySem.W.kitOne K (.type "NoneType") (.type "dict") = some false := kit_ty (by decide +kernel)
end LX
/-! sorted(x) of a list of whole numbers or of a dict with such keys, any number of them -/
namespace LX
open PySem PySem.Spec PyProof.Rows L2
section
variable {X : Cx}
theorem call_sortedDA (hcalm : X.calm = true) : CallR X (.builtin "sorted") (fun xs H Q => ∃ (a : Addr) (kvs : List (Key × V)) (ks : List Int), xs = [.ref a] ∧ Rd H a (.dK kvs) ∧ kvs.map (·.1) = ks.map Sum.inl ∧
    ∀ (ys : List Int) (p : Addr), ys.Perm ks → ys.Pairwise (· ≤ ·) → H p = none → Q (.ref p) (upd H p (.lst (ys.map V.int)))) := by
  intro pins s σ H xs us Q I r q
  obtain ⟨a, kvs, ks, ex, hd, hks, q⟩ := q
  subst ex
  obtain ⟨u, eu, rx⟩ := vals1 r
  subst eu
  cases rx
  obtain ⟨z, lo, vs, rel, dd⟩ := dk_rd I.hok hd
  obtain ⟨ep, hat⟩ := dd.dictAt
  have hkeys : vs.map (·.1) = ks.map Sum.inl := rel.keys.symm.trans hks
  have hl : vs.length = ks.length := by
    have e := congrArg List.length hkeys
    rw [List.length_map, List.length_map] at e
    exact e
  have hkl : ks.length ≤ sizeLine := by
    have e := congrArg List.length hks
    rw [List.length_map, List.length_map] at e
    omega
  have h16 : vs.length ≤ sizeLine := by rw [hl]; exact hkl
  refine Calls.call_function_entry PyProof.Rows.kind_sorted PyProof.Rows.plain_sorted PyProof.Rows.entry_sorted (PyProof.Rows.args_sorted1 _) ?_
  unfold Builtin.«sorted»
  refine wpAny_bind (m := checkCount "sorted" 1 1 _) (wpAny_pure ?_)
  refine wpAny_bind (PySem.W.kdu_collect (A := X.A.in1) (PySem.W.kdl_dict (knd := mixKind X.prog X.w) (kvs := vs) (ep := ep) lo) (I.ok.hd hcalm) hat h16 fun h' tk acc hk hacc => ?_)
  have hal : acc.toList.length = ks.length := by rw [Array.length_toList, hacc.1, hl]
  have hS : IntsAre acc.toList ks := ints_each hal fun j v e => by
    obtain ⟨k, x, e1, e2⟩ := hacc.2 j v (by rw [← Array.getElem?_toList]; exact e)
    have e3 : (vs.map (·.1))[j]? = some k := by rw [List.getElem?_map, e1]; rfl
    rw [hkeys, List.getElem?_map] at e3
    cases e4 : ks[j]? with
    | none => rw [e4] at e3; cases e3
    | some y =>
      rw [e4] at e3
      have e5 : Sum.inl y = k := Option.some.inj e3
      subst e5
      rcases keyIs_shape (show keyIs (Sum.inl y) v = true from e2) with ⟨i, t, ek, ev⟩ | ⟨z, t, ek, ev⟩
      · cases ek
        exact ⟨y, t, rfl, ev⟩
      · cases ek
  have I1 : Inv X pins σ H { s with heap := h', toks := tk } := I.kept hk
  refine wpAny_bind (wpAny_newList ?_ (by rw [hal]; exact hkl))
  have hoL : (h'.push (seqObj "list" acc.toList.toArray 0)).get? h'.objs.size = some (seqObj "list" acc.toList.toArray 0) := Heap.get?_push_size _ rfl
  show wpAny _ _ _ _ _ { s with heap := h'.push (seqObj "list" acc.toList.toArray 0), toks := tk }
  refine wpAny_bind (wpAny_holding (wpAny_call_entry PyProof.Rows.slot_list_sort ⟨_, hoL, rfl⟩ PyProof.Rows.entry_list_sort
    (SrtO.list_sort_ord (s := { s with heap := h'.push (seqObj "list" acc.toList.toArray 0), toks := tk }) SrtO.swo_int hoL (by rw [hal]; exact hkl) (fun h2 => SrtO.ints_sortable hS h2) fun out h1 h2 => ⟨.none, rfl, ?_⟩) (PyProof.Rows.args_list_sort _)))
  obtain ⟨k1, k2, k3⟩ := SrtO.ints_out hS h1 h2
  obtain ⟨e', he'⟩ := PyProof.Rows.sortedHeap_at (vs := acc.toList) (out := out.toArray) hoL
  have hlen : ((out.map SrtO.iv).map V.int).length ≤ sizeLine := by
    rw [List.length_map, k2.length_eq]
    exact hkl
  refine wpAny_pure ⟨_, rfl, .ref h'.objs.size, upd H h'.objs.size (.lst ((out.map SrtO.iv).map V.int)), I1.laid (t' := tk) (fun b u e => ?_) (Nat.le_refl _)
    (show ObjOk X.prog X.w _ _ _ (.lst ((out.map SrtO.iv).map V.int)) from ⟨hlen, out, e', vals_of_ints k1, he'⟩), rfl, q _ _ k2 k3 (I1.hok.fresh (Nat.le_refl _))⟩
  have hb : b < h'.objs.size := Heap.lt_size e
  rw [PyProof.Rows.sortedHeap_old (Nat.ne_of_lt hb) (by rw [size_push']; exact Nat.lt_succ_of_lt hb)]
  exact Heap.get?_push_of_some _ e
def rSortedU (K : PySem.W.Frag) : List V → Hp → VK → Prop := fun vs H Q => ∃ (a : Addr) (ns : List Int), vs = [V.ref a] ∧ (SqL K H a (ns.map V.int) ∨ ∃ kvs : List (Key × V), Rd H a (.dK kvs) ∧ kvs.map (·.1) = ns.map Sum.inl) ∧
  ∀ (ns' : List Int) (p : Addr), ns'.Perm ns → ns'.Pairwise (· ≤ ·) → H p = none → Q (.ref p) (upd H p (.lst (ns'.map V.int)))
theorem call_sortedU (hcalm : X.calm = true) : CallR X (.builtin "sorted") (rSortedU X.K) := by
  intro pins s σ H xs us Q I r h
  obtain ⟨a, ns, rfl, h1 | ⟨kvs, h1, h2⟩, q⟩ := h
  · exact cr_sortedI pins s σ H _ us Q I r ⟨a, ns, rfl, h1, q⟩
  · exact call_sortedDA hcalm pins s σ H _ us Q I r ⟨a, kvs, ns, rfl, h1, h2, q⟩
end
end LX
/-! the rules of LBase with the law's own K, for the parts of a comprehension -/
namespace LX
open PySem PySem.Spec PyProof.Rows L2
section
variable {X : Cx} {K : PySem.W.Frag}
theorem ix_UK (e : X.K = K) (hu : X.A.units + 1 < cLine) : IxR X (rIxU K) := by subst e; exact ix_U hu
theorem op_addUK (e : X.K = K) : OpR X (binaryOp .Add) (rAddU K) := by subst e; exact op_addU
theorem op_eqUK (e : X.K = K) (hu : X.A.units + 64 < cLine) : OpR X (compareOp .Eq) (rEqU K id) := by subst e; exact op_eqU hu
theorem op_neUK (e : X.K = K) (hu : X.A.units + 64 < cLine) : OpR X (compareOp .NotEq) (rEqU K (!·)) := by subst e; exact op_neU hu
theorem op_inUK (e : X.K = K) (hu : X.A.units + 1 < cLine) : OpR X (compareOp .In) (rInU K id) := by subst e; exact op_inU hu
theorem op_ninUK (e : X.K = K) (hu : X.A.units + 1 < cLine) : OpR X (compareOp .NotIn) (rInU K (!·)) := by subst e; exact op_ninU hu
theorem sl_UK (e : X.K = K) : SlR X (rSlU K) := by subst e; exact sl_U
theorem call_lenUK (e : X.K = K) : CallR X (.builtin "len") (rLenU K) := by subst e; exact call_lenU
theorem pe_fldK {o : Expr} {f : Str} {pos : Pos} {ta : TE} (e : X.K = K) (he : PE X o ta) (hb : attributeBase o f X.env (eval o X.env) = eval o X.env) : PE X (.Attribute o f pos) (tFld K ta f) := by subst e; exact pe_fld he hb
def tTruK (K : PySem.W.Frag) (ta : TE) : TT := fun σ H Q => ta σ H fun x H' => ∃ k, TruV K x H' k ∧ Q k H'
theorem pt_truthK {a : Expr} {ta : TE} (e : X.K = K) (ha : PE X a ta) (he : ∀ whole, isTrue a X.env whole = (do let v ← whole; standAt a.pos; holding [v] (truthy v))) :
    PT X a (tTruK K ta) := by subst e; exact pt_truth ha he
end
end LX
/-! the reading, step by step: one rule a head; the step tactic is printed from mkauto.py -/
namespace LX
open PySem PySem.Spec PyProof.Rows L2
/-- every old thing outside of F is kept -/
def Fr (F : List Addr) (H H' : Hp) : Prop := ∀ b o, H b = some o → b ∉ F → H' b = some o
theorem Fr.rfl' {F : List Addr} {H : Hp} : Fr F H H := fun _ _ e _ => e
theorem Fr.trans {F : List Addr} {H H1 H2 : Hp} (a : Fr F H H1) (b : Fr F H1 H2) : Fr F H H2 := fun c o e n => b c o (a c o e n) n
theorem Fr.new {F : List Addr} {H : Hp} {q : Addr} {o : HO} (hq : H q = none) : Fr F H (upd H q o) := fun c u e _ => by rw [upd_ne (ne_of_none e hq)]; exact e
theorem Fr.at {F : List Addr} {H : Hp} {q : Addr} {o : HO} (hq : q ∈ F) : Fr F H (upd H q o) := fun c u e n => by rw [upd_ne (fun z => n (by rw [z]; exact hq))]; exact e
theorem Fr.mono {F G : List Addr} {H H' : Hp} (a : Fr F H H') (h : ∀ b, b ∈ F → b ∈ G) : Fr G H H' := fun c o e n => a c o e fun m => n (h c m)
theorem Fr.skip {F : List Addr} {H H' : Hp} {q : Addr} {o : HO} (f : Fr F H H') (hq : H q = none) : Fr F H (upd H' q o) := fun b u e n => by rw [upd_ne (ne_of_none e hq)]; exact f b u e n
theorem Fr.g {F : List Addr} {H H' : Hp} (f : Fr F H H') {a : Addr} {o : HO} (h : H a = some o) (n : a ∉ F) : H' a = some o := f a o h n
theorem Fr.g0 {H H' : Hp} (f : Fr [] H H') {a : Addr} {o : HO} (h : H a = some o) : H' a = some o := f a o h (by simp)
/-- what is free later was free before -/
theorem Fr.none {H H' : Hp} (f : Fr [] H H') {q : Addr} (h : H' q = Option.none) : H q = Option.none := by
  cases e : H q with
  | none => rfl
  | some o => rw [f.g0 e] at h; cases h
theorem Fr.noneF {F : List Addr} {H H' : Hp} (f : Fr F H H') {q : Addr} (h : H' q = Option.none) (n : q ∉ F) : H q = Option.none := by
  cases e : H q with
  | none => rfl
  | some o => rw [f q o e n] at h; cases h
section
variable {K : PySem.W.Frag} {σ : L2.St} {H : Hp} {D : Ends}
/-! ### statements -/
theorem z_seq {t u : TS} (h : t { D with nx := u D } σ H) : tSeq t u D σ H := h
theorem z_next (h : D.nx σ H) : tNext D σ H := h
theorem z_brk (h : D.bk σ H) : tBreak D σ H := h
theorem z_cont (h : D.ct σ H) : tCont D σ H := h
theorem z_asg {te : TE} {g : TG} (h : te σ H fun x H1 => g x σ H1 D.nx) : tAsg te g D σ H := h
theorem z_drop {te : TE} (h : te σ H fun _ H1 => D.nx σ H1) : tDrop te D σ H := h
theorem z_ret {te : TE} (h : te σ H D.rt) : tRet te D σ H := h
theorem z_retN (h : D.rt .non H) : tRetN D σ H := h
theorem z_ifs {c : TT} {t u : TS} (h : c σ H fun b H1 => if b = true then t D σ H1 else u D σ H1) : tIfS c t u D σ H := h
theorem z_cut {t u : TS} (h : ∃ Mid : L2.St → Hp → Prop, t { D with nx := Mid } σ H ∧ ∀ σ' H', Mid σ' H' → u D σ' H') : Evl.tCut t u D σ H := h
theorem z_aug {i : Nat} {x : V} {te : TE} {ti : TIp} (e : σ[i]? = some (some x)) (h : te σ H fun y H1 => ti x y H1 fun z H2 => D.nx (σ.set i (some z)) H2) : tAug i te ti D σ H := ⟨x, e, h⟩
def oFldS (K : PySem.W.Frag) (f : Str) (x y : V) (D : Hp → Prop) (H : Hp) : Prop := ∃ a C dx fs, x = .ref a ∧ H a = some (.ins C dx fs) ∧ Cls K C ∧ NoAttr K C f ∧ fs.length < 1000 ∧ D (upd H a (.ins C dx (putF f y fs)))
theorem z_flds {ta tv : TE} {f : Str} (h : tv σ H fun y H1 => ta σ H1 fun x H2 => oFldS K f x y (D.nx σ) H2) : sFld K ta tv f D σ H := h
theorem z_flds1 {f : Str} {a C dx : Addr} {fs : List (Str × V)} {y : V} {Q : Hp → Prop} (h1 : H a = some (.ins C dx fs)) (h2 : Cls K C) (h3 : NoAttr K C f) (h4 : fs.length < 1000) (h : ∀ H1, Fr [a] H H1 → H1 a = some (.ins C dx (putF f y fs)) → (∀ b, H b = none → H1 b = none) → Q H1) : oFldS K f (.ref a) y Q H :=
  ⟨a, C, dx, fs, rfl, h1, h2, h3, h4, h _ (Fr.at (by simp)) upd_same (fun b e => by rw [upd_ne (ne_of_none h1 e).symm]; exact e)⟩
def oDPut (x y v : V) (D : Hp → Prop) (H : Hp) : Prop := ∃ a H4, x = .ref a ∧ DPut H a y v H4 ∧ D H4
theorem z_dput {td ty tv : TE} (h : tv σ H fun v H1 => td σ H1 fun x H2 => ty σ H2 fun y H3 => oDPut x y v (D.nx σ) H3) : sDPut td ty tv D σ H := h
theorem upd_free {H : Hp} {a : Addr} {o u : HO} (h1 : H a = some u) : ∀ b, H b = none → upd H a o b = none := fun b e => by rw [upd_ne (ne_of_none h1 e).symm]; exact e
theorem z_dputI {a : Addr} {n : Int} {v : V} {kvs : List (Key × V)} {Q : Hp → Prop} (h1 : H a = some (.dK kvs)) (h2 : kvs.length < sizeLine) (h : ∀ H1, Fr [a] H H1 → H1 a = some (.dK (putK kvs (.inl n) v)) → (∀ b, H b = none → H1 b = none) → Q H1) : oDPut (.ref a) (.int n) v Q H :=
  ⟨a, _, rfl, DPut.k (k := Sum.inl n) h1 h2, h _ (Fr.at (by simp)) upd_same (upd_free h1)⟩
theorem z_dputS {a : Addr} {n : Str} {v : V} {kvs : List (Key × V)} {Q : Hp → Prop} (h1 : H a = some (.dK kvs)) (h2 : kvs.length < sizeLine) (h : ∀ H1, Fr [a] H H1 → H1 a = some (.dK (putK kvs (.inr n) v)) → (∀ b, H b = none → H1 b = none) → Q H1) : oDPut (.ref a) (.str n) v Q H :=
  ⟨a, _, rfl, DPut.k (k := Sum.inr n) h1 h2, h _ (Fr.at (by simp)) upd_same (upd_free h1)⟩
/-! ### targets -/
theorem z_gtup {n : Nat} {t : TGs} {a : Addr} {xs : List V} {Q : L2.St → Hp → Prop} (h1 : H a = some (.tup xs)) (h2 : xs.length = n) (h : t xs σ H Q) : gTup K n t (.ref a) σ H Q := ⟨a, xs, rfl, SqT.of h1, h2, h⟩
theorem z_gcons {t : TG} {u : TGs} {v : V} {r : List V} {Q : L2.St → Hp → Prop} (h : t v σ H fun σ' H' => u r σ' H' Q) : gCons t u (v :: r) σ H Q := ⟨v, r, rfl, h⟩
theorem z_gnil {Q : L2.St → Hp → Prop} (h : Q σ H) : gNil [] σ H Q := ⟨rfl, h⟩
theorem z_gsub {to ti : TE} {t : TSet} {v : V} {Q : L2.St → Hp → Prop} (h : to σ H fun o H1 => ti σ H1 fun i H2 => t o i v H2 fun H3 => Q σ H3) : gSub to ti t v σ H Q := h
theorem z_setL {p : Addr} {xs : List V} {k : Int} {j : Nat} {v : V} {Q : Hp → Prop} (h1 : H p = some (.lst xs)) (h2 : ixN xs.length k = some j) (h : ∀ H1, Fr [p] H H1 → H1 p = some (.lst (xs.set j v)) → (∀ b, H b = none → H1 b = none) → Q H1) : rSetL (.ref p) (.int k) v H Q :=
  ⟨p, xs, k, j, rfl, rfl, h1, h2, h _ (Fr.at (by simp)) upd_same (upd_free h1)⟩
/-! ### expressions -/
variable {Q : VK}
theorem z_c {v : V} (h : Q v H) : tC v σ H Q := h
theorem z_op {r : R2} {ta tb : TE} (h : ta σ H fun x H1 => tb σ H1 fun y H2 => r x y H2 Q) : tOp r ta tb σ H Q := h
theorem z_un {r : V → Hp → VK → Prop} {ta : TE} (h : ta σ H fun x H1 => r x H1 Q) : tUn r ta σ H Q := h
/-- a new thing -/
def oNew (o : HO) (n : Nat) (H : Hp) (Q : VK) : Prop := n ≤ sizeLine ∧ ∀ p, H p = none → Q (.ref p) (upd H p o)
theorem z_tup {t : TA} (h : t σ H fun xs H1 => oNew (.tup xs) xs.length H1 Q) : tTup t σ H Q := h
theorem z_lst {t : TA} (h : t σ H fun xs H1 => oNew (.lst xs) xs.length H1 Q) : tLst t σ H Q := h
theorem z_newL {n : Nat} {o : HO} (hn : n ≤ sizeLine) (h : ∀ p H1, H p = none → Fr [] H H1 → H1 p = some o → Q (.ref p) H1) : oNew o n H Q := ⟨hn, fun p hp => h p _ hp (Fr.new hp) upd_same⟩
theorem sz1 {n : Nat} (h : n ≤ 1000) : n ≤ sizeLine := by rw [sizeLine_eq]; omega
def rListU (K : PySem.W.Frag) : List V → Hp → VK → Prop := fun xs H Q => ∃ p ys, xs = [.ref p] ∧ (SqL K H p ys ∨ SqT K H p ys) ∧ ∀ l, H l = none → Q (.ref l) (upd H l (.lst ys))
theorem call_listU {X : Cx} : CallR X (.type "list") (rListU X.K) := call_list_of
theorem call_listUK {X : Cx} {K : PySem.W.Frag} (e : X.K = K) : CallR X (.type "list") (rListU K) := by subst e; exact call_listU
theorem z_new {o : HO} (h : ∀ p H1, H p = none → Fr [] H H1 → H1 p = some o → Q (.ref p) H1) : ∀ p, H p = none → Q (.ref p) (upd H p o) := fun p hp => h p _ hp (Fr.new hp) upd_same
theorem z_dnew (h : ∀ p H1, H p = none → Fr [] H H1 → H1 p = some (.dK []) → Q (.ref p) H1) : tDNewK σ H Q := fun p hp => h p _ hp (Fr.new hp) upd_same
theorem z_nil {Q : List V → Hp → Prop} (h : Q [] H) : tNil σ H Q := h
theorem z_cons {ta : TE} {tr : TA} {Q : List V → Hp → Prop} (h : ta σ H fun x H1 => tr σ H1 fun xs H2 => Q (x :: xs) H2) : tCons ta tr σ H Q := h
theorem z_cb {r : List V → Hp → VK → Prop} {t : TA} (h : t σ H fun vs H1 => r vs H1 Q) : tCB r t σ H Q := h
theorem z_call {sp : Sp} {dvs : List V} {E : XK} {t : TA} (h : t σ H fun vs H1 => sp (vs ++ dvs) H1 Q E) : tCall sp dvs E t σ H Q := h
def oMeth (C : Addr) (m : Str) (x : V) (R : Hp → Prop) (H : Hp) : Prop := ∃ a dx fs, x = .ref a ∧ H a = some (.ins C dx fs) ∧ fs.lookup m = none ∧ R H
theorem z_meth {C : Addr} {m : Str} {sp : Sp} {dvs : List V} {E : XK} {ta : TE} {t : TA} (h : ta σ H fun x H1 => oMeth C m x (fun H1 => t σ H1 fun vs H2 => sp (x :: (vs ++ dvs)) H2 Q E) H1) : tMeth C m sp dvs E ta t σ H Q := h
theorem z_meth1 {C : Addr} {m : Str} {a dx : Addr} {fs : List (Str × V)} {R : Hp → Prop} (h1 : H a = some (.ins C dx fs)) (h2 : fs.lookup m = none) (h : R H) : oMeth C m (.ref a) R H := ⟨a, dx, fs, rfl, h1, h2, h⟩
theorem z_make {C : Addr} {sp : Sp} {dvs : List V} {E : XK} {t : TA} (h : t σ H fun vs H1 => ∀ x dx, H1 x = none → H1 dx = none → dx ≠ x → sp (.ref x :: (vs ++ dvs)) (upd (upd H1 dx (.own x)) x (.ins C dx [])) (fun v H2 => v = .non ∧ Q (.ref x) H2) E) : tMake C sp dvs E t σ H Q := h
def oFld (K : PySem.W.Frag) (f : Str) (x : V) (H : Hp) (Q : VK) : Prop := ∃ a C dx fs v, x = .ref a ∧ H a = some (.ins C dx fs) ∧ Cls K C ∧ NoAttr K C f ∧ fs.lookup f = some v ∧ Q v H
theorem z_fld {ta : TE} {f : Str} (h : ta σ H fun x H1 => oFld K f x H1 Q) : tFld K ta f σ H Q := h
theorem z_fld1 {f : Str} {a C dx : Addr} {fs : List (Str × V)} {v : V} (h1 : H a = some (.ins C dx fs)) (h2 : Cls K C) (h3 : NoAttr K C f) (h4 : fs.lookup f = some v) (h : Q v H) : oFld K f (.ref a) H Q := ⟨a, C, dx, fs, v, rfl, h1, h2, h3, h4, h⟩
def oBl (x : V) (H : Hp) (Q : Bool → Hp → Prop) : Prop := ∃ k, x = .bl k ∧ Q k H
theorem z_test {t : TE} {Q : Bool → Hp → Prop} (h : t σ H fun x H' => oBl x H' Q) : tTest t σ H Q := h
theorem z_tB {t : TE} {Q : Bool → Hp → Prop} (h : t σ H fun x H' => oBl x H' Q) : tB t σ H Q := h
theorem z_bl {k : Bool} {Q : Bool → Hp → Prop} (h : Q k H) : oBl (.bl k) H Q := ⟨k, rfl, h⟩
def oTru (K : PySem.W.Frag) (x : V) (H : Hp) (Q : Bool → Hp → Prop) : Prop := ∃ k, TruV K x H k ∧ Q k H
theorem z_tru {ta : TE} {Q : Bool → Hp → Prop} (h : ta σ H fun x H' => oTru K x H' Q) : (fun (σ : L2.St) (H : Hp) (Q : Bool → Hp → Prop) => ta σ H fun x H' => ∃ k, TruV K x H' k ∧ Q k H') σ H Q := h
theorem z_truK {ta : TE} {Q : Bool → Hp → Prop} (h : ta σ H fun x H' => oTru K x H' Q) : tTruK K ta σ H Q := h
theorem z_truI {k : Bool → Prop} {x : V} (h : oTru K x H (fun b _ => k b)) : ∃ b, TruV K x H b ∧ k b := h
theorem z_notT {ta : TE} (h : ta σ H fun x H' => oTru K x H' fun k H' => Q (.bl (!k)) H') : tNotT K ta σ H Q := h
theorem z_truB {k : Bool} {Q : Bool → Hp → Prop} (h : Q k H) : oTru K (.bl k) H Q := ⟨k, rfl, h⟩
theorem z_truN {Q : Bool → Hp → Prop} (h : Q false H) : oTru K .non H Q := ⟨false, rfl, h⟩
theorem z_truZ {i : Int} {Q : Bool → Hp → Prop} (h : Q (i != 0) H) : oTru K (.int i) H Q := ⟨_, rfl, h⟩
theorem z_truS {y : Str} {Q : Bool → Hp → Prop} (hl : y.length ≤ sizeLine) (h : Q ((y.length : Int) != 0) H) : oTru K (.str y) H Q := ⟨_, ⟨hl, rfl⟩, h⟩
theorem z_truL {p : Addr} {xs : List V} {Q : Bool → Hp → Prop} (h1 : H p = some (.lst xs)) (h : Q (!xs.isEmpty) H) : oTru K (.ref p) H Q := ⟨_, .inl ⟨_, SqL.of h1, rfl⟩, h⟩
theorem z_truT {p : Addr} {xs : List V} {Q : Bool → Hp → Prop} (h1 : H p = some (.tup xs)) (h : Q (!xs.isEmpty) H) : oTru K (.ref p) H Q := ⟨_, .inr (.inl ⟨_, SqT.of h1, rfl⟩), h⟩
theorem z_truD {p : Addr} {kvs : List (Key × V)} {Q : Bool → Hp → Prop} (h1 : H p = some (.dK kvs)) (h : Q (!kvs.isEmpty) H) : oTru K (.ref p) H Q := ⟨_, .inr (.inr ⟨_, h1, rfl⟩), h⟩
theorem z_tand {t u : TT} {Q : Bool → Hp → Prop} (h : t σ H fun c H1 => if c = true then u σ H1 Q else Q false H1) : tAnd t u σ H Q := h
theorem z_tor {t u : TT} {Q : Bool → Hp → Prop} (h : t σ H fun c H1 => if c = true then Q true H1 else u σ H1 Q) : tOr t u σ H Q := h
theorem z_tnot {t : TT} {Q : Bool → Hp → Prop} (h : t σ H fun c H1 => Q (!c) H1) : tNot t σ H Q := h
theorem z_yes {Q : Bool → Hp → Prop} (h : Q true H) : tYes σ H Q := h
theorem z_andV {ta tb : TE} (h : ta σ H fun x H1 => oBl x H1 fun c H1 => if c = true then tb σ H1 Q else Q (.bl false) H1) : tAndV ta tb σ H Q := h
theorem z_orV {ta tb : TE} (h : ta σ H fun x H1 => oBl x H1 fun c H1 => if c = true then Q (.bl true) H1 else tb σ H1 Q) : tOrV ta tb σ H Q := h
theorem z_tIf {t : TT} {ta tb : TE} (h : t σ H fun c H1 => if c = true then ta σ H1 Q else tb σ H1 Q) : tIf t ta tb σ H Q := h
/-! ### operators -/
theorem z_addI {i j : Int} (h : Q (.int (i + j)) H) : rAddU K (.int i) (.int j) H Q := h
theorem z_addS {i j : Str} (hl : i.length + j.length ≤ sizeLine) (h : Q (.str (i ++ j)) H) : rAddU K (.str i) (.str j) H Q := ⟨hl, h⟩
theorem z_addL {a b : Addr} {xs zs : List V} (h1 : H a = some (.lst xs)) (h2 : H b = some (.lst zs)) (h3 : xs.length + zs.length ≤ sizeLine) (h : ∀ p H1, H p = none → Fr [] H H1 → H1 p = some (.lst (xs ++ zs)) → Q (.ref p) H1) : rAddU K (.ref a) (.ref b) H Q := Or.inl ⟨a, b, xs, zs, rfl, rfl, h1, h2, h3, z_new h⟩
theorem z_rI {C : Int → Int → Prop} {g : Int → Int → V} {i j : Int} (hc : C i j) (h : Q (g i j) H) : rI C g (.int i) (.int j) H Q := ⟨i, j, rfl, rfl, hc, h⟩
theorem z_rI0 {g : Int → Int → V} {i j : Int} (h : Q (g i j) H) : rI0 g (.int i) (.int j) H Q := ⟨i, j, rfl, rfl, h⟩
theorem z_mulI {i j : Int} (hc : CMul i j) (h : Q (.int (i * j)) H) : rMulU (.int i) (.int j) H Q := ⟨hc, h⟩
theorem z_rep {l : Addr} {xs : List V} {k : Int} (n : Nat) (h1 : H l = some (.lst xs)) (hk : k = (n : Int)) (hn : n < 2 ^ 63) (h3 : xs.length * n ≤ sizeLine) (h : ∀ p H1, H p = none → Fr [] H H1 → H1 p = some (.lst (List.replicate n xs).flatten) → Q (.ref p) H1) : rMulU (.ref l) (.int k) H Q := by
  subst hk
  exact ⟨l, n, xs, rfl, rfl, h1, by omega, by omega, by rw [Int.toNat_natCast]; exact h3, z_new (by rw [Int.toNat_natCast]; exact h)⟩
theorem z_rU {g : Int → V} {i : Int} (h : Q (g i) H) : rU g (.int i) H Q := ⟨i, rfl, h⟩
theorem z_ordI {f : Int → Int → Bool} {g : List Nat → List Nat → Bool} {i j : Int} (h : Q (.bl (f i j)) H) : rOrd f g (.int i) (.int j) H Q := h
theorem z_ordS {f : Int → Int → Bool} {g : List Nat → List Nat → Bool} {i j : Str} (h : Q (.bl (g i.cps.toList j.cps.toList)) H) : rOrd f g (.str i) (.str j) H Q := h
theorem z_eqI {i j : Int} (h : Q (.bl (decide (i = j))) H) : rEqU K id (.int i) (.int j) H Q := ⟨rfl, by show Q (.bl (decide (V.int i = V.int j))) H; rw [I_dec]; exact h⟩
theorem z_neI {i j : Int} (h : Q (.bl (!decide (i = j))) H) : rEqU K (!·) (.int i) (.int j) H Q := ⟨rfl, by show Q (.bl (!decide (V.int i = V.int j))) H; rw [I_dec]; exact h⟩
theorem S_dec (a b : Str) : decide (V.str a = V.str b) = decide (a = b) := by
  by_cases h : a = b
  · subst h; simp
  · have : ¬ V.str a = V.str b := fun z => h (V.str.inj z)
    rw [decide_eq_false this, decide_eq_false h]
theorem z_eqS {i j : Str} (h : Q (.bl (decide (i = j))) H) : rEqU K id (.str i) (.str j) H Q := ⟨rfl, by show Q (.bl (decide (V.str i = V.str j))) H; rw [S_dec]; exact h⟩
theorem z_neS {i j : Str} (h : Q (.bl (!decide (i = j))) H) : rEqU K (!·) (.str i) (.str j) H Q := ⟨rfl, by show Q (.bl (!decide (V.str i = V.str j))) H; rw [S_dec]; exact h⟩
theorem z_isNP {x : V} (h : Q (.bl ((decide (x = .non)))) H) : rIsU id x .non H Q := h
theorem z_isNQ {x : V} (h : Q (.bl (!(decide (x = .non)))) H) : rIsU (!·) x .non H Q := h
theorem z_isNiP {i : Int} (h : Q (.bl false) H) : rIsU id (.int i) .non H Q := h
theorem z_isNiN {i : Int} (h : Q (.bl true) H) : rIsU (!·) (.int i) .non H Q := h
theorem z_isNsP {i : Str} (h : Q (.bl false) H) : rIsU id (.str i) .non H Q := h
theorem z_isNsN {i : Str} (h : Q (.bl true) H) : rIsU (!·) (.str i) .non H Q := h
theorem z_isNrP {a : Addr} (h : Q (.bl false) H) : rIsU id (.ref a) .non H Q := h
theorem z_isNrN {a : Addr} (h : Q (.bl true) H) : rIsU (!·) (.ref a) .non H Q := h
theorem z_isNbP {b : Bool} (h : Q (.bl false) H) : rIsU id (.bl b) .non H Q := h
theorem z_isNbN {b : Bool} (h : Q (.bl true) H) : rIsU (!·) (.bl b) .non H Q := h
theorem z_isNnP (h : Q (.bl true) H) : rIsU id .non .non H Q := h
theorem z_isNnN (h : Q (.bl false) H) : rIsU (!·) .non .non H Q := h
theorem z_isBP {x : V} {b : Bool} (h : Q (.bl ((decide (x = .bl b)))) H) : rIsU id x (.bl b) H Q := h
theorem z_isBQ {x : V} {b : Bool} (h : Q (.bl (!(decide (x = .bl b)))) H) : rIsU (!·) x (.bl b) H Q := h
theorem z_ixL {p : Addr} {xs : List V} {i : Int} {v : V} (h1 : H p = some (.lst xs)) (h2 : atI xs i = some v) (h : Q v H) : rIxU K (.ref p) (.int i) H Q := Or.inl ⟨xs, i, v, rfl, Or.inl (SqL.of h1), h2, h⟩
theorem z_ixT {p : Addr} {xs : List V} {i : Int} {v : V} (h1 : H p = some (.tup xs)) (h2 : atI xs i = some v) (h : Q v H) : rIxU K (.ref p) (.int i) H Q := Or.inl ⟨xs, i, v, rfl, Or.inr (SqT.of h1), h2, h⟩
theorem z_ixD {p : Addr} {kvs : List (Key × V)} {n : Int} {v : V} (h1 : H p = some (.dK kvs)) (h2 : valV kvs (.inl n) = some v) (h : Q v H) : rIxU K (.ref p) (.int n) H Q := Or.inr ⟨v, by rw [← h2]; exact DGet.k (k := Sum.inl n) h1, h⟩
theorem z_ixDf {p : Addr} {kvs : List (Key × V)} {od : Obj} {n : Int} {v : V} (h1 : H p = some (.frz od (.dK kvs))) (h2 : valV kvs (.inl n) = some v) (h : Q v H) : rIxU K (.ref p) (.int n) H Q := Or.inr ⟨v, by rw [← h2]; exact .inl ⟨kvs, .inl n, .inr ⟨od, h1⟩, rfl, rfl⟩, h⟩
theorem z_ixDS {p : Addr} {kvs : List (Key × V)} {n : Str} {v : V} (h1 : H p = some (.dK kvs)) (h2 : valV kvs (.inr n) = some v) (h : Q v H) : rIxU K (.ref p) (.str n) H Q := Or.inr ⟨v, by rw [← h2]; exact DGet.k (k := Sum.inr n) h1, h⟩
theorem z_ixS {z : Str} {i : Int} {c : Nat} (h1 : z.length ≤ sizeLine) (h2 : atI z.cps.toList i = some c) (h : Q (.str ⟨#[c]⟩) H) : rIxU K (.str z) (.int i) H Q := ⟨i, c, rfl, h1, h2, h⟩
theorem z_inDIP {p : Addr} {kvs : List (Key × V)} {n : Int} (h1 : H p = some (.dK kvs)) (h : Q (.bl ((valV kvs (.inl n)).isSome)) H) : rInU K id (.int n) (.ref p) H Q := Or.inr ⟨_, DGet.k (k := Sum.inl n) h1, h⟩
theorem z_inDIN {p : Addr} {kvs : List (Key × V)} {n : Int} (h1 : H p = some (.dK kvs)) (h : Q (.bl (!(valV kvs (.inl n)).isSome)) H) : rInU K (!·) (.int n) (.ref p) H Q := Or.inr ⟨_, DGet.k (k := Sum.inl n) h1, h⟩
theorem z_inDfP {p : Addr} {kvs : List (Key × V)} {od : Obj} {n : Int} (h1 : H p = some (.frz od (.dK kvs))) (h : Q (.bl ((valV kvs (.inl n)).isSome)) H) : rInU K id (.int n) (.ref p) H Q := Or.inr ⟨_, .inl ⟨kvs, .inl n, .inr ⟨od, h1⟩, rfl, rfl⟩, h⟩
theorem z_inDfN {p : Addr} {kvs : List (Key × V)} {od : Obj} {n : Int} (h1 : H p = some (.frz od (.dK kvs))) (h : Q (.bl (!(valV kvs (.inl n)).isSome)) H) : rInU K (!·) (.int n) (.ref p) H Q := Or.inr ⟨_, .inl ⟨kvs, .inl n, .inr ⟨od, h1⟩, rfl, rfl⟩, h⟩
theorem z_inDSP {p : Addr} {kvs : List (Key × V)} {n : Str} (h1 : H p = some (.dK kvs)) (h : Q (.bl ((valV kvs (.inr n)).isSome)) H) : rInU K id (.str n) (.ref p) H Q := Or.inr ⟨_, DGet.k (k := Sum.inr n) h1, h⟩
theorem z_inDSN {p : Addr} {kvs : List (Key × V)} {n : Str} (h1 : H p = some (.dK kvs)) (h : Q (.bl (!(valV kvs (.inr n)).isSome)) H) : rInU K (!·) (.str n) (.ref p) H Q := Or.inr ⟨_, DGet.k (k := Sum.inr n) h1, h⟩
theorem z_inLP {p : Addr} {xs : List V} {x : V} (h1 : H p = some (.lst xs)) (h2 : flatV x = true) (h3 : xs.all flatV = true) (h : Q (.bl ((inV x xs))) H) : rInU K id x (.ref p) H Q := Or.inl ⟨xs, Or.inl (SqL.of h1), h2, h3, h⟩
theorem z_inLN {p : Addr} {xs : List V} {x : V} (h1 : H p = some (.lst xs)) (h2 : flatV x = true) (h3 : xs.all flatV = true) (h : Q (.bl (!(inV x xs))) H) : rInU K (!·) x (.ref p) H Q := Or.inl ⟨xs, Or.inl (SqL.of h1), h2, h3, h⟩
theorem z_inTP {p : Addr} {xs : List V} {x : V} (h1 : H p = some (.tup xs)) (h2 : flatV x = true) (h3 : xs.all flatV = true) (h : Q (.bl ((inV x xs))) H) : rInU K id x (.ref p) H Q := Or.inl ⟨xs, Or.inr (SqT.of h1), h2, h3, h⟩
theorem z_inTN {p : Addr} {xs : List V} {x : V} (h1 : H p = some (.tup xs)) (h2 : flatV x = true) (h3 : xs.all flatV = true) (h : Q (.bl (!(inV x xs))) H) : rInU K (!·) x (.ref p) H Q := Or.inl ⟨xs, Or.inr (SqT.of h1), h2, h3, h⟩
def tSlO := @tSl
theorem z_sl {r : V → Option Int → Option Int → Hp → VK → Prop} {te : TE} {tl th : TO} (h : te σ H fun x H1 => tl σ H1 fun l H2 => th σ H2 fun u H3 => r x l u H3 Q) : tSl r te tl th σ H Q := h
theorem z_nopart {Q : Option Int → Hp → Prop} (h : Q none H) : tNoPart σ H Q := h
def oPart (x : V) (H : Hp) (Q : Option Int → Hp → Prop) : Prop := ∃ i, x = .int i ∧ Q (some i) H
theorem z_part {t : TE} {Q : Option Int → Hp → Prop} (h : t σ H fun x H1 => oPart x H1 Q) : tPart t σ H Q := h
theorem z_part1 {i : Int} {Q : Option Int → Hp → Prop} (h : Q (some i) H) : oPart (.int i) H Q := ⟨i, rfl, h⟩
theorem z_slS {z : Str} {lo hi : Option Int} (h1 : z.length ≤ sizeLine) (h : Q (.str (cutS z lo hi)) H) : rSlU K (.str z) lo hi H Q := ⟨h1, h⟩
theorem z_slL {a : Addr} {xs : List V} {lo hi : Option Int} (h1 : H a = some (.lst xs)) (h : ∀ p H1, H p = none → Fr [] H H1 → H1 p = some (.lst (cutV xs lo hi)) → Q (.ref p) H1) : rSlU K (.ref a) lo hi H Q := Or.inl ⟨a, xs, rfl, SqL.of h1, z_new h⟩
/-! ### builtins -/
theorem z_lenS {z : Str} (h1 : z.length ≤ sizeLine) (h : Q (.int z.length) H) : rLenU K [.str z] H Q := ⟨h1, h⟩
theorem z_lenL {p : Addr} {ys : List V} (h1 : H p = some (.lst ys)) (h : Q (.int ys.length) H) : rLenU K [.ref p] H Q := Or.inl ⟨ys, Or.inl (SqL.of h1), h⟩
theorem z_lenT {p : Addr} {ys : List V} (h1 : H p = some (.tup ys)) (h : Q (.int ys.length) H) : rLenU K [.ref p] H Q := Or.inl ⟨ys, Or.inr (SqT.of h1), h⟩
theorem z_lenD {p : Addr} {kvs : List (Key × V)} (h1 : H p = some (.dK kvs)) (h : Q (.int kvs.length) H) : rLenU K [.ref p] H Q := Or.inr ⟨kvs, h1, h⟩
theorem z_intI {i : Int} (h : Q (.int i) H) : rIntU [.int i] H Q := h
theorem z_intB {k : Bool} (h : Q (.int (if k then 1 else 0)) H) : rIntU [.bl k] H Q := h
theorem z_isi {x c : V} {t u : Value} {b : Bool} (h1 : ClsV c u) (h2 : TyX K H x t) (h3 : PySem.W.kitOne K t u = some b) (h : Q (.bl b) H) : rIsi K [x, c] H Q := ⟨x, c, t, u, b, rfl, h1, h2, h3, h⟩
theorem z_isi_int_int {i : Int} (h : Q (.bl true) H) : rIsi K [.int i, .ty "int"] H Q := z_isi (ClsV.ty _) (TyX.base (TyOf.int _)) kt_int_int h
theorem z_isi_int_bool {i : Int} (h : Q (.bl false) H) : rIsi K [.int i, .ty "bool"] H Q := z_isi (ClsV.ty _) (TyX.base (TyOf.int _)) kt_int_bool h
theorem z_isi_int_str {i : Int} (h : Q (.bl false) H) : rIsi K [.int i, .ty "str"] H Q := z_isi (ClsV.ty _) (TyX.base (TyOf.int _)) kt_int_str h
theorem z_isi_int_list {i : Int} (h : Q (.bl false) H) : rIsi K [.int i, .ty "list"] H Q := z_isi (ClsV.ty _) (TyX.base (TyOf.int _)) kt_int_list h
theorem z_isi_int_tuple {i : Int} (h : Q (.bl false) H) : rIsi K [.int i, .ty "tuple"] H Q := z_isi (ClsV.ty _) (TyX.base (TyOf.int _)) kt_int_tuple h
theorem z_isi_int_dict {i : Int} (h : Q (.bl false) H) : rIsi K [.int i, .ty "dict"] H Q := z_isi (ClsV.ty _) (TyX.base (TyOf.int _)) kt_int_dict h
theorem z_isi_str_int {i : Str} (h : Q (.bl false) H) : rIsi K [.str i, .ty "int"] H Q := z_isi (ClsV.ty _) (TyX.base (TyOf.str _)) kt_str_int h
theorem z_isi_str_bool {i : Str} (h : Q (.bl false) H) : rIsi K [.str i, .ty "bool"] H Q := z_isi (ClsV.ty _) (TyX.base (TyOf.str _)) kt_str_bool h
theorem z_isi_str_str {i : Str} (h : Q (.bl true) H) : rIsi K [.str i, .ty "str"] H Q := z_isi (ClsV.ty _) (TyX.base (TyOf.str _)) kt_str_str h
theorem z_isi_str_list {i : Str} (h : Q (.bl false) H) : rIsi K [.str i, .ty "list"] H Q := z_isi (ClsV.ty _) (TyX.base (TyOf.str _)) kt_str_list h
theorem z_isi_str_tuple {i : Str} (h : Q (.bl false) H) : rIsi K [.str i, .ty "tuple"] H Q := z_isi (ClsV.ty _) (TyX.base (TyOf.str _)) kt_str_tuple h
theorem z_isi_str_dict {i : Str} (h : Q (.bl false) H) : rIsi K [.str i, .ty "dict"] H Q := z_isi (ClsV.ty _) (TyX.base (TyOf.str _)) kt_str_dict h
theorem z_isi_bool_int {i : Bool} (h : Q (.bl true) H) : rIsi K [.bl i, .ty "int"] H Q := z_isi (ClsV.ty _) (TyX.base (TyOf.bl _)) kt_bool_int h
theorem z_isi_bool_bool {i : Bool} (h : Q (.bl true) H) : rIsi K [.bl i, .ty "bool"] H Q := z_isi (ClsV.ty _) (TyX.base (TyOf.bl _)) kt_bool_bool h
theorem z_isi_bool_str {i : Bool} (h : Q (.bl false) H) : rIsi K [.bl i, .ty "str"] H Q := z_isi (ClsV.ty _) (TyX.base (TyOf.bl _)) kt_bool_str h
theorem z_isi_bool_list {i : Bool} (h : Q (.bl false) H) : rIsi K [.bl i, .ty "list"] H Q := z_isi (ClsV.ty _) (TyX.base (TyOf.bl _)) kt_bool_list h
theorem z_isi_bool_tuple {i : Bool} (h : Q (.bl false) H) : rIsi K [.bl i, .ty "tuple"] H Q := z_isi (ClsV.ty _) (TyX.base (TyOf.bl _)) kt_bool_tuple h
theorem z_isi_bool_dict {i : Bool} (h : Q (.bl false) H) : rIsi K [.bl i, .ty "dict"] H Q := z_isi (ClsV.ty _) (TyX.base (TyOf.bl _)) kt_bool_dict h
theorem z_isi_NoneType_int  (h : Q (.bl false) H) : rIsi K [.non, .ty "int"] H Q := z_isi (ClsV.ty _) (TyX.base (TyOf.non)) kt_NoneType_int h
theorem z_isi_NoneType_bool  (h : Q (.bl false) H) : rIsi K [.non, .ty "bool"] H Q := z_isi (ClsV.ty _) (TyX.base (TyOf.non)) kt_NoneType_bool h
theorem z_isi_NoneType_str  (h : Q (.bl false) H) : rIsi K [.non, .ty "str"] H Q := z_isi (ClsV.ty _) (TyX.base (TyOf.non)) kt_NoneType_str h
theorem z_isi_NoneType_list  (h : Q (.bl false) H) : rIsi K [.non, .ty "list"] H Q := z_isi (ClsV.ty _) (TyX.base (TyOf.non)) kt_NoneType_list h
theorem z_isi_NoneType_tuple  (h : Q (.bl false) H) : rIsi K [.non, .ty "tuple"] H Q := z_isi (ClsV.ty _) (TyX.base (TyOf.non)) kt_NoneType_tuple h
theorem z_isi_NoneType_dict  (h : Q (.bl false) H) : rIsi K [.non, .ty "dict"] H Q := z_isi (ClsV.ty _) (TyX.base (TyOf.non)) kt_NoneType_dict h
theorem z_isi0 {a : Addr} {c : V} {t u : Value} {b : Bool} (h1 : ClsV c u) (h2 : TyX K H (.ref a) t) (h3 : PySem.W.kitOne K t u = some b) (h : Q (.bl b) H) : rIsi K [.ref a, c] H Q := z_isi h1 h2 h3 h
theorem z_listL {p : Addr} {ys : List V} (h1 : H p = some (.lst ys)) (h : ∀ l H1, H l = none → Fr [] H H1 → H1 l = some (.lst ys) → Q (.ref l) H1) : rListU K [V.ref p] H Q := ⟨p, ys, rfl, Or.inl (SqL.of h1), z_new h⟩
/-! ### methods of lists -/
def oBM (K : PySem.W.Frag) (T : String) (x : V) (R : Hp → Prop) (H : Hp) : Prop := tyV K T x H ∧ R H
theorem z_bm0 {T : String} {r : V → List V → Hp → VK → Prop} {to : TE} (h : to σ H fun x H1 => oBM K T x (fun H1 => r x [] H1 Q) H1) : tBM0 K T r to σ H Q := h
theorem z_bm {T : String} {r : V → List V → Hp → VK → Prop} {to : TE} {t : TA} (h : to σ H fun x H1 => oBM K T x (fun H1 => t σ H1 fun xs H2 => r x xs H2 Q) H1) : tBM K T r to t σ H Q := h
theorem z_bmL {p : Addr} {xs : List V} {R : Hp → Prop} (h1 : H p = some (.lst xs)) (h : R H) : oBM K "list" (.ref p) R H := ⟨Or.inl ⟨rfl, xs, SqL.of h1⟩, h⟩
theorem z_bmS {z : Str} {R : Hp → Prop} (h : R H) : oBM K "str" (.str z) R H := ⟨rfl, h⟩
theorem z_append {l : Addr} {xs : List V} {y : V} (h1 : H l = some (.lst xs)) (h2 : xs.length < sizeLine) (h : ∀ H1, Fr [l] H H1 → H1 l = some (.lst (xs ++ [y])) → (∀ b, H b = none → H1 b = none) → Q .non H1) : rAppend (.ref l) [y] H Q := ⟨l, xs, y, rfl, rfl, h1, h2, h _ (Fr.at (by simp)) upd_same (upd_free h1)⟩
theorem z_extend {l b : Addr} {xs zs : List V} (h1 : H l = some (.lst xs)) (h2 : H b = some (.lst zs)) (h3 : xs.length + zs.length ≤ sizeLine) (h : ∀ H1, Fr [l] H H1 → H1 l = some (.lst (xs ++ zs)) → (∀ b, H b = none → H1 b = none) → Q .non H1) : rExtend (.ref l) [.ref b] H Q := ⟨l, b, xs, zs, rfl, rfl, h1, h2, h3, h _ (Fr.at (by simp)) upd_same (upd_free h1)⟩
theorem z_pop {l : Addr} {xs : List V} {y : V} (h1 : H l = some (.lst xs)) (h2 : xs[xs.length - 1]? = some y) (h : ∀ H1, Fr [l] H H1 → H1 l = some (.lst xs.dropLast) → (∀ b, H b = none → H1 b = none) → Q y H1) : rPop (.ref l) [] H Q := ⟨l, xs, y, rfl, rfl, h1, h2, h _ (Fr.at (by simp)) upd_same (upd_free h1)⟩
/-! ### the heap behind an in-place change, seen from the entry: q is new since H0 -/
theorem Fr.in {H0 H H1 : Hp} {q : Addr} (f : Fr [] H0 H) (g : Fr [q] H H1) (hq : H0 q = Option.none) : Fr [] H0 H1 := fun b o e _ => g b o (f.g0 e) (by
  have : b ≠ q := fun z => by rw [z, hq] at e; cases e
  simpa using this)
/-! ### loops' heads -/
theorem z_for {wi : TI} {g : TG} {tb : TS} (h : wi σ H fun J H1 => ∃ W : Nat → Nat → L2.St → Hp → Prop, (∃ m, W 0 m σ H1) ∧ ∀ i m σ H, W i m σ H →
  (J.stop i H ∧ D.nx σ H) ∨ (J.go i H ∧ ∃ N : L2.St → Hp → Prop, (∀ σ' H', N σ' H' → ∃ m', m' < m ∧ W (i + 1) m' σ' H') ∧ ∀ x H', J.yld i H x H' → g x σ H' fun σ2 H2 => tb { D with nx := N, ct := N, bk := D.nx } σ2 H2)) : tFor wi g tb D σ H := h
def oIter (K : PySem.W.Frag) (x : V) (H : Hp) (R : It → Hp → Prop) : Prop := ∃ a, x = .ref a ∧ (∃ xs, SqL K H a xs) ∧ R (Itl K a) H
theorem z_iList {tl : TE} {R : It → Hp → Prop} (h : tl σ H fun x H1 => oIter K x H1 R) : iList K tl σ H R := h
theorem z_iList1 {p : Addr} {xs : List V} {R : It → Hp → Prop} (h1 : H p = some (.lst xs)) (h : R (Itl K p) H) : oIter K (.ref p) H R := ⟨p, rfl, ⟨xs, SqL.of h1⟩, h⟩
def oRng1 (vs : List V) (H : Hp) (R : It → Hp → Prop) : Prop := ∃ j : Int, vs = [.int j] ∧ -(2 ^ 62) ≤ j ∧ j < 2 ^ 62 ∧ R (Itr 0 j.toNat) H
theorem z_iRng1 {ta : TA} {R : It → Hp → Prop} (h : ta σ H fun vs H1 => oRng1 vs H1 R) : iRng1 ta σ H R := h
theorem z_rng1 {j : Int} (n : Nat) {R : It → Hp → Prop} (e : j = (n : Int)) (h1 : n < 2 ^ 62) (h : R (Itr 0 n) H) : oRng1 [.int j] H R := ⟨j, rfl, by omega, by omega, by subst e; rw [Int.toNat_natCast]; exact h⟩
def oRng2 (vs : List V) (H : Hp) (R : It → Hp → Prop) : Prop := ∃ i j : Int, vs = [.int i, .int j] ∧ (-(2 ^ 62) ≤ i ∧ i < 2 ^ 62 ∧ -(2 ^ 62) ≤ j ∧ j < 2 ^ 62) ∧ R (Itr i (j - i).toNat) H
theorem z_iRng2 {ta : TA} {R : It → Hp → Prop} (h : ta σ H fun vs H1 => oRng2 vs H1 R) : iRng2 ta σ H R := h
theorem z_rng2 {i j : Int} (n : Nat) {R : It → Hp → Prop} (e : (j - i).toNat = n) (h1 : -(2 ^ 62) ≤ i ∧ i < 2 ^ 62 ∧ -(2 ^ 62) ≤ j ∧ j < 2 ^ 62) (h : R (Itr i n) H) : oRng2 [.int i, .int j] H R := ⟨i, j, rfl, h1, by rw [e]; exact h⟩
/-- a comprehension's loop -/
def oLc (J : It) (g : TG) (tt : TT) (te : TE) (vs : List Nat) (σ : L2.St) (H1 : Hp) (Q : VK) : Prop := ∀ D, H1 D = none → ∃ W : Nat → Nat → Hp → Prop, (∃ m, W 0 m (upd H1 D (.lst []))) ∧ ∀ i m H, W i m H →
  (J.stop i H ∧ Q (.ref D) H) ∨ (J.go i H ∧ ∃ N : Hp → Prop, (∀ H', N H' → ∃ m', m' < m ∧ W (i + 1) m' H') ∧ ∀ x H', J.yld i H x H' → g x (wipe σ vs) H' fun σ2 H2 => wipe σ2 vs = wipe σ vs ∧ tt σ2 H2 fun b H3 =>
    if b = true then te σ2 H3 fun y H4 => ∃ acc, H4 D = some (.lst acc) ∧ acc.length < sizeLine ∧ N (upd H4 D (.lst (acc ++ [y]))) else N H3)
theorem z_lc {wi : TI} {g : TG} {tt : TT} {te : TE} {vs : List Nat} (h : wi σ H fun J H1 => oLc J g tt te vs σ H1 Q) : tLc wi g tt te vs σ H Q := h
theorem z_iteTT {A B : Prop} (h : A) : if true = true then A else B := iteT h
theorem z_iteFF {A B : Prop} (h : B) : if false = true then A else B := iteF h
theorem z_iteNT {A B : Prop} (h : B) : if (!true) = true then A else B := h
theorem z_iteNF {A B : Prop} (h : A) : if (!false) = true then A else B := h
theorem z_iteS1 {α : Type} {v : α} {A B : Prop} (h : A) : if (some v).isSome = true then A else B := h
theorem z_iteS2 {α : Type} {v : α} {A B : Prop} (h : B) : if (!(some v).isSome) = true then A else B := h
theorem z_iteS3 {α : Type} {A B : Prop} (h : B) : if (none : Option α).isSome = true then A else B := h
theorem z_iteS4 {α : Type} {A B : Prop} (h : A) : if (!(none : Option α).isSome) = true then A else B := h
theorem z_lockAsg {te : TE} {i : Nat} (h : tLockE te σ H fun x H1 => gName i x σ H1 D.nx) : tLock (tAsg te (gName i)) D σ H := h
theorem z_sortedL {a : Addr} {ns : List Int} (h1 : H a = some (.lst (ns.map V.int))) (h : ∀ (ns' : List Int) p H1, ns'.Perm ns → ns'.Pairwise (· ≤ ·) → H p = none → Fr [] H H1 → H1 p = some (.lst (ns'.map V.int)) → Q (.ref p) H1) : rSortedU K [.ref a] H Q := ⟨a, ns, rfl, Or.inl (SqL.of h1), fun ns' p e1 e2 hp => h ns' p _ e1 e2 hp (Fr.new hp) upd_same⟩
theorem z_sortedD {a : Addr} {kvs : List (Key × V)} {ns : List Int} (h1 : H a = some (.dK kvs)) (h2 : kvs.map (·.1) = ns.map Sum.inl) (h : ∀ (ns' : List Int) p H1, ns'.Perm ns → ns'.Pairwise (· ≤ ·) → H p = none → Fr [] H H1 → H1 p = some (.lst (ns'.map V.int)) → Q (.ref p) H1) : rSortedU K [.ref a] H Q := ⟨a, ns, rfl, Or.inr ⟨kvs, Rd.of h1, h2⟩, fun ns' p e1 e2 hp => h ns' p _ e1 e2 hp (Fr.new hp) upd_same⟩
theorem z_start {N : List Str} {vs : List V} {t : TS} {σ : L2.St} (e : L2.start N vs = σ) (h : t D σ H) : t D (L2.start N vs) H := by rw [e]; exact h
theorem z_ok {A B : Prop} (a : A) (b : B) : A ∧ B := ⟨a, b⟩
theorem z_var0 {v : V} {l : L2.St} (h : Q v H) : tVar 0 (some v :: l) H Q := ⟨v, rfl, h⟩
theorem z_nm0 {y : Option V} {v : V} {l : L2.St} {Q : L2.St → Hp → Prop} (h : Q (some v :: l) H) : gName 0 v (y :: l) H Q := h
theorem z_var1 {x0 : Option V} {v : V} {l : L2.St} (h : Q v H) : tVar 1 (x0 :: some v :: l) H Q := ⟨v, rfl, h⟩
theorem z_nm1 {x0 : Option V} {y : Option V} {v : V} {l : L2.St} {Q : L2.St → Hp → Prop} (h : Q (x0 :: some v :: l) H) : gName 1 v (x0 :: y :: l) H Q := h
theorem z_var2 {x0 x1 : Option V} {v : V} {l : L2.St} (h : Q v H) : tVar 2 (x0 :: x1 :: some v :: l) H Q := ⟨v, rfl, h⟩
theorem z_nm2 {x0 x1 : Option V} {y : Option V} {v : V} {l : L2.St} {Q : L2.St → Hp → Prop} (h : Q (x0 :: x1 :: some v :: l) H) : gName 2 v (x0 :: x1 :: y :: l) H Q := h
theorem z_var3 {x0 x1 x2 : Option V} {v : V} {l : L2.St} (h : Q v H) : tVar 3 (x0 :: x1 :: x2 :: some v :: l) H Q := ⟨v, rfl, h⟩
theorem z_nm3 {x0 x1 x2 : Option V} {y : Option V} {v : V} {l : L2.St} {Q : L2.St → Hp → Prop} (h : Q (x0 :: x1 :: x2 :: some v :: l) H) : gName 3 v (x0 :: x1 :: x2 :: y :: l) H Q := h
theorem z_var4 {x0 x1 x2 x3 : Option V} {v : V} {l : L2.St} (h : Q v H) : tVar 4 (x0 :: x1 :: x2 :: x3 :: some v :: l) H Q := ⟨v, rfl, h⟩
theorem z_nm4 {x0 x1 x2 x3 : Option V} {y : Option V} {v : V} {l : L2.St} {Q : L2.St → Hp → Prop} (h : Q (x0 :: x1 :: x2 :: x3 :: some v :: l) H) : gName 4 v (x0 :: x1 :: x2 :: x3 :: y :: l) H Q := h
theorem z_var5 {x0 x1 x2 x3 x4 : Option V} {v : V} {l : L2.St} (h : Q v H) : tVar 5 (x0 :: x1 :: x2 :: x3 :: x4 :: some v :: l) H Q := ⟨v, rfl, h⟩
theorem z_nm5 {x0 x1 x2 x3 x4 : Option V} {y : Option V} {v : V} {l : L2.St} {Q : L2.St → Hp → Prop} (h : Q (x0 :: x1 :: x2 :: x3 :: x4 :: some v :: l) H) : gName 5 v (x0 :: x1 :: x2 :: x3 :: x4 :: y :: l) H Q := h
theorem z_var6 {x0 x1 x2 x3 x4 x5 : Option V} {v : V} {l : L2.St} (h : Q v H) : tVar 6 (x0 :: x1 :: x2 :: x3 :: x4 :: x5 :: some v :: l) H Q := ⟨v, rfl, h⟩
theorem z_nm6 {x0 x1 x2 x3 x4 x5 : Option V} {y : Option V} {v : V} {l : L2.St} {Q : L2.St → Hp → Prop} (h : Q (x0 :: x1 :: x2 :: x3 :: x4 :: x5 :: some v :: l) H) : gName 6 v (x0 :: x1 :: x2 :: x3 :: x4 :: x5 :: y :: l) H Q := h
theorem z_var7 {x0 x1 x2 x3 x4 x5 x6 : Option V} {v : V} {l : L2.St} (h : Q v H) : tVar 7 (x0 :: x1 :: x2 :: x3 :: x4 :: x5 :: x6 :: some v :: l) H Q := ⟨v, rfl, h⟩
theorem z_nm7 {x0 x1 x2 x3 x4 x5 x6 : Option V} {y : Option V} {v : V} {l : L2.St} {Q : L2.St → Hp → Prop} (h : Q (x0 :: x1 :: x2 :: x3 :: x4 :: x5 :: x6 :: some v :: l) H) : gName 7 v (x0 :: x1 :: x2 :: x3 :: x4 :: x5 :: x6 :: y :: l) H Q := h
theorem z_var8 {x0 x1 x2 x3 x4 x5 x6 x7 : Option V} {v : V} {l : L2.St} (h : Q v H) : tVar 8 (x0 :: x1 :: x2 :: x3 :: x4 :: x5 :: x6 :: x7 :: some v :: l) H Q := ⟨v, rfl, h⟩
theorem z_nm8 {x0 x1 x2 x3 x4 x5 x6 x7 : Option V} {y : Option V} {v : V} {l : L2.St} {Q : L2.St → Hp → Prop} (h : Q (x0 :: x1 :: x2 :: x3 :: x4 :: x5 :: x6 :: x7 :: some v :: l) H) : gName 8 v (x0 :: x1 :: x2 :: x3 :: x4 :: x5 :: x6 :: x7 :: y :: l) H Q := h
theorem z_var9 {x0 x1 x2 x3 x4 x5 x6 x7 x8 : Option V} {v : V} {l : L2.St} (h : Q v H) : tVar 9 (x0 :: x1 :: x2 :: x3 :: x4 :: x5 :: x6 :: x7 :: x8 :: some v :: l) H Q := ⟨v, rfl, h⟩
theorem z_nm9 {x0 x1 x2 x3 x4 x5 x6 x7 x8 : Option V} {y : Option V} {v : V} {l : L2.St} {Q : L2.St → Hp → Prop} (h : Q (x0 :: x1 :: x2 :: x3 :: x4 :: x5 :: x6 :: x7 :: x8 :: some v :: l) H) : gName 9 v (x0 :: x1 :: x2 :: x3 :: x4 :: x5 :: x6 :: x7 :: x8 :: y :: l) H Q := h
theorem z_var10 {x0 x1 x2 x3 x4 x5 x6 x7 x8 x9 : Option V} {v : V} {l : L2.St} (h : Q v H) : tVar 10 (x0 :: x1 :: x2 :: x3 :: x4 :: x5 :: x6 :: x7 :: x8 :: x9 :: some v :: l) H Q := ⟨v, rfl, h⟩
theorem z_nm10 {x0 x1 x2 x3 x4 x5 x6 x7 x8 x9 : Option V} {y : Option V} {v : V} {l : L2.St} {Q : L2.St → Hp → Prop} (h : Q (x0 :: x1 :: x2 :: x3 :: x4 :: x5 :: x6 :: x7 :: x8 :: x9 :: some v :: l) H) : gName 10 v (x0 :: x1 :: x2 :: x3 :: x4 :: x5 :: x6 :: x7 :: x8 :: x9 :: y :: l) H Q := h
theorem z_var11 {x0 x1 x2 x3 x4 x5 x6 x7 x8 x9 x10 : Option V} {v : V} {l : L2.St} (h : Q v H) : tVar 11 (x0 :: x1 :: x2 :: x3 :: x4 :: x5 :: x6 :: x7 :: x8 :: x9 :: x10 :: some v :: l) H Q := ⟨v, rfl, h⟩
theorem z_nm11 {x0 x1 x2 x3 x4 x5 x6 x7 x8 x9 x10 : Option V} {y : Option V} {v : V} {l : L2.St} {Q : L2.St → Hp → Prop} (h : Q (x0 :: x1 :: x2 :: x3 :: x4 :: x5 :: x6 :: x7 :: x8 :: x9 :: x10 :: some v :: l) H) : gName 11 v (x0 :: x1 :: x2 :: x3 :: x4 :: x5 :: x6 :: x7 :: x8 :: x9 :: x10 :: y :: l) H Q := h
theorem z_var12 {x0 x1 x2 x3 x4 x5 x6 x7 x8 x9 x10 x11 : Option V} {v : V} {l : L2.St} (h : Q v H) : tVar 12 (x0 :: x1 :: x2 :: x3 :: x4 :: x5 :: x6 :: x7 :: x8 :: x9 :: x10 :: x11 :: some v :: l) H Q := ⟨v, rfl, h⟩
theorem z_nm12 {x0 x1 x2 x3 x4 x5 x6 x7 x8 x9 x10 x11 : Option V} {y : Option V} {v : V} {l : L2.St} {Q : L2.St → Hp → Prop} (h : Q (x0 :: x1 :: x2 :: x3 :: x4 :: x5 :: x6 :: x7 :: x8 :: x9 :: x10 :: x11 :: some v :: l) H) : gName 12 v (x0 :: x1 :: x2 :: x3 :: x4 :: x5 :: x6 :: x7 :: x8 :: x9 :: x10 :: x11 :: y :: l) H Q := h
theorem z_var13 {x0 x1 x2 x3 x4 x5 x6 x7 x8 x9 x10 x11 x12 : Option V} {v : V} {l : L2.St} (h : Q v H) : tVar 13 (x0 :: x1 :: x2 :: x3 :: x4 :: x5 :: x6 :: x7 :: x8 :: x9 :: x10 :: x11 :: x12 :: some v :: l) H Q := ⟨v, rfl, h⟩
theorem z_nm13 {x0 x1 x2 x3 x4 x5 x6 x7 x8 x9 x10 x11 x12 : Option V} {y : Option V} {v : V} {l : L2.St} {Q : L2.St → Hp → Prop} (h : Q (x0 :: x1 :: x2 :: x3 :: x4 :: x5 :: x6 :: x7 :: x8 :: x9 :: x10 :: x11 :: x12 :: some v :: l) H) : gName 13 v (x0 :: x1 :: x2 :: x3 :: x4 :: x5 :: x6 :: x7 :: x8 :: x9 :: x10 :: x11 :: x12 :: y :: l) H Q := h
theorem z_var14 {x0 x1 x2 x3 x4 x5 x6 x7 x8 x9 x10 x11 x12 x13 : Option V} {v : V} {l : L2.St} (h : Q v H) : tVar 14 (x0 :: x1 :: x2 :: x3 :: x4 :: x5 :: x6 :: x7 :: x8 :: x9 :: x10 :: x11 :: x12 :: x13 :: some v :: l) H Q := ⟨v, rfl, h⟩
theorem z_nm14 {x0 x1 x2 x3 x4 x5 x6 x7 x8 x9 x10 x11 x12 x13 : Option V} {y : Option V} {v : V} {l : L2.St} {Q : L2.St → Hp → Prop} (h : Q (x0 :: x1 :: x2 :: x3 :: x4 :: x5 :: x6 :: x7 :: x8 :: x9 :: x10 :: x11 :: x12 :: x13 :: some v :: l) H) : gName 14 v (x0 :: x1 :: x2 :: x3 :: x4 :: x5 :: x6 :: x7 :: x8 :: x9 :: x10 :: x11 :: x12 :: x13 :: y :: l) H Q := h
theorem z_var15 {x0 x1 x2 x3 x4 x5 x6 x7 x8 x9 x10 x11 x12 x13 x14 : Option V} {v : V} {l : L2.St} (h : Q v H) : tVar 15 (x0 :: x1 :: x2 :: x3 :: x4 :: x5 :: x6 :: x7 :: x8 :: x9 :: x10 :: x11 :: x12 :: x13 :: x14 :: some v :: l) H Q := ⟨v, rfl, h⟩
theorem z_nm15 {x0 x1 x2 x3 x4 x5 x6 x7 x8 x9 x10 x11 x12 x13 x14 : Option V} {y : Option V} {v : V} {l : L2.St} {Q : L2.St → Hp → Prop} (h : Q (x0 :: x1 :: x2 :: x3 :: x4 :: x5 :: x6 :: x7 :: x8 :: x9 :: x10 :: x11 :: x12 :: x13 :: x14 :: some v :: l) H) : gName 15 v (x0 :: x1 :: x2 :: x3 :: x4 :: x5 :: x6 :: x7 :: x8 :: x9 :: x10 :: x11 :: x12 :: x13 :: x14 :: y :: l) H Q := h
theorem z_var16 {x0 x1 x2 x3 x4 x5 x6 x7 x8 x9 x10 x11 x12 x13 x14 x15 : Option V} {v : V} {l : L2.St} (h : Q v H) : tVar 16 (x0 :: x1 :: x2 :: x3 :: x4 :: x5 :: x6 :: x7 :: x8 :: x9 :: x10 :: x11 :: x12 :: x13 :: x14 :: x15 :: some v :: l) H Q := ⟨v, rfl, h⟩
theorem z_nm16 {x0 x1 x2 x3 x4 x5 x6 x7 x8 x9 x10 x11 x12 x13 x14 x15 : Option V} {y : Option V} {v : V} {l : L2.St} {Q : L2.St → Hp → Prop} (h : Q (x0 :: x1 :: x2 :: x3 :: x4 :: x5 :: x6 :: x7 :: x8 :: x9 :: x10 :: x11 :: x12 :: x13 :: x14 :: x15 :: some v :: l) H) : gName 16 v (x0 :: x1 :: x2 :: x3 :: x4 :: x5 :: x6 :: x7 :: x8 :: x9 :: x10 :: x11 :: x12 :: x13 :: x14 :: x15 :: y :: l) H Q := h
theorem z_var17 {x0 x1 x2 x3 x4 x5 x6 x7 x8 x9 x10 x11 x12 x13 x14 x15 x16 : Option V} {v : V} {l : L2.St} (h : Q v H) : tVar 17 (x0 :: x1 :: x2 :: x3 :: x4 :: x5 :: x6 :: x7 :: x8 :: x9 :: x10 :: x11 :: x12 :: x13 :: x14 :: x15 :: x16 :: some v :: l) H Q := ⟨v, rfl, h⟩
theorem z_nm17 {x0 x1 x2 x3 x4 x5 x6 x7 x8 x9 x10 x11 x12 x13 x14 x15 x16 : Option V} {y : Option V} {v : V} {l : L2.St} {Q : L2.St → Hp → Prop} (h : Q (x0 :: x1 :: x2 :: x3 :: x4 :: x5 :: x6 :: x7 :: x8 :: x9 :: x10 :: x11 :: x12 :: x13 :: x14 :: x15 :: x16 :: some v :: l) H) : gName 17 v (x0 :: x1 :: x2 :: x3 :: x4 :: x5 :: x6 :: x7 :: x8 :: x9 :: x10 :: x11 :: x12 :: x13 :: x14 :: x15 :: x16 :: y :: l) H Q := h
theorem z_var18 {x0 x1 x2 x3 x4 x5 x6 x7 x8 x9 x10 x11 x12 x13 x14 x15 x16 x17 : Option V} {v : V} {l : L2.St} (h : Q v H) : tVar 18 (x0 :: x1 :: x2 :: x3 :: x4 :: x5 :: x6 :: x7 :: x8 :: x9 :: x10 :: x11 :: x12 :: x13 :: x14 :: x15 :: x16 :: x17 :: some v :: l) H Q := ⟨v, rfl, h⟩
theorem z_nm18 {x0 x1 x2 x3 x4 x5 x6 x7 x8 x9 x10 x11 x12 x13 x14 x15 x16 x17 : Option V} {y : Option V} {v : V} {l : L2.St} {Q : L2.St → Hp → Prop} (h : Q (x0 :: x1 :: x2 :: x3 :: x4 :: x5 :: x6 :: x7 :: x8 :: x9 :: x10 :: x11 :: x12 :: x13 :: x14 :: x15 :: x16 :: x17 :: some v :: l) H) : gName 18 v (x0 :: x1 :: x2 :: x3 :: x4 :: x5 :: x6 :: x7 :: x8 :: x9 :: x10 :: x11 :: x12 :: x13 :: x14 :: x15 :: x16 :: x17 :: y :: l) H Q := h
theorem z_var19 {x0 x1 x2 x3 x4 x5 x6 x7 x8 x9 x10 x11 x12 x13 x14 x15 x16 x17 x18 : Option V} {v : V} {l : L2.St} (h : Q v H) : tVar 19 (x0 :: x1 :: x2 :: x3 :: x4 :: x5 :: x6 :: x7 :: x8 :: x9 :: x10 :: x11 :: x12 :: x13 :: x14 :: x15 :: x16 :: x17 :: x18 :: some v :: l) H Q := ⟨v, rfl, h⟩
theorem z_nm19 {x0 x1 x2 x3 x4 x5 x6 x7 x8 x9 x10 x11 x12 x13 x14 x15 x16 x17 x18 : Option V} {y : Option V} {v : V} {l : L2.St} {Q : L2.St → Hp → Prop} (h : Q (x0 :: x1 :: x2 :: x3 :: x4 :: x5 :: x6 :: x7 :: x8 :: x9 :: x10 :: x11 :: x12 :: x13 :: x14 :: x15 :: x16 :: x17 :: x18 :: some v :: l) H) : gName 19 v (x0 :: x1 :: x2 :: x3 :: x4 :: x5 :: x6 :: x7 :: x8 :: x9 :: x10 :: x11 :: x12 :: x13 :: x14 :: x15 :: x16 :: x17 :: x18 :: y :: l) H Q := h
theorem z_var20 {x0 x1 x2 x3 x4 x5 x6 x7 x8 x9 x10 x11 x12 x13 x14 x15 x16 x17 x18 x19 : Option V} {v : V} {l : L2.St} (h : Q v H) : tVar 20 (x0 :: x1 :: x2 :: x3 :: x4 :: x5 :: x6 :: x7 :: x8 :: x9 :: x10 :: x11 :: x12 :: x13 :: x14 :: x15 :: x16 :: x17 :: x18 :: x19 :: some v :: l) H Q := ⟨v, rfl, h⟩
theorem z_nm20 {x0 x1 x2 x3 x4 x5 x6 x7 x8 x9 x10 x11 x12 x13 x14 x15 x16 x17 x18 x19 : Option V} {y : Option V} {v : V} {l : L2.St} {Q : L2.St → Hp → Prop} (h : Q (x0 :: x1 :: x2 :: x3 :: x4 :: x5 :: x6 :: x7 :: x8 :: x9 :: x10 :: x11 :: x12 :: x13 :: x14 :: x15 :: x16 :: x17 :: x18 :: x19 :: some v :: l) H) : gName 20 v (x0 :: x1 :: x2 :: x3 :: x4 :: x5 :: x6 :: x7 :: x8 :: x9 :: x10 :: x11 :: x12 :: x13 :: x14 :: x15 :: x16 :: x17 :: x18 :: x19 :: y :: l) H Q := h
theorem z_var21 {x0 x1 x2 x3 x4 x5 x6 x7 x8 x9 x10 x11 x12 x13 x14 x15 x16 x17 x18 x19 x20 : Option V} {v : V} {l : L2.St} (h : Q v H) : tVar 21 (x0 :: x1 :: x2 :: x3 :: x4 :: x5 :: x6 :: x7 :: x8 :: x9 :: x10 :: x11 :: x12 :: x13 :: x14 :: x15 :: x16 :: x17 :: x18 :: x19 :: x20 :: some v :: l) H Q := ⟨v, rfl, h⟩
theorem z_nm21 {x0 x1 x2 x3 x4 x5 x6 x7 x8 x9 x10 x11 x12 x13 x14 x15 x16 x17 x18 x19 x20 : Option V} {y : Option V} {v : V} {l : L2.St} {Q : L2.St → Hp → Prop} (h : Q (x0 :: x1 :: x2 :: x3 :: x4 :: x5 :: x6 :: x7 :: x8 :: x9 :: x10 :: x11 :: x12 :: x13 :: x14 :: x15 :: x16 :: x17 :: x18 :: x19 :: x20 :: some v :: l) H) : gName 21 v (x0 :: x1 :: x2 :: x3 :: x4 :: x5 :: x6 :: x7 :: x8 :: x9 :: x10 :: x11 :: x12 :: x13 :: x14 :: x15 :: x16 :: x17 :: x18 :: x19 :: x20 :: y :: l) H Q := h
theorem z_var22 {x0 x1 x2 x3 x4 x5 x6 x7 x8 x9 x10 x11 x12 x13 x14 x15 x16 x17 x18 x19 x20 x21 : Option V} {v : V} {l : L2.St} (h : Q v H) : tVar 22 (x0 :: x1 :: x2 :: x3 :: x4 :: x5 :: x6 :: x7 :: x8 :: x9 :: x10 :: x11 :: x12 :: x13 :: x14 :: x15 :: x16 :: x17 :: x18 :: x19 :: x20 :: x21 :: some v :: l) H Q := ⟨v, rfl, h⟩
theorem z_nm22 {x0 x1 x2 x3 x4 x5 x6 x7 x8 x9 x10 x11 x12 x13 x14 x15 x16 x17 x18 x19 x20 x21 : Option V} {y : Option V} {v : V} {l : L2.St} {Q : L2.St → Hp → Prop} (h : Q (x0 :: x1 :: x2 :: x3 :: x4 :: x5 :: x6 :: x7 :: x8 :: x9 :: x10 :: x11 :: x12 :: x13 :: x14 :: x15 :: x16 :: x17 :: x18 :: x19 :: x20 :: x21 :: some v :: l) H) : gName 22 v (x0 :: x1 :: x2 :: x3 :: x4 :: x5 :: x6 :: x7 :: x8 :: x9 :: x10 :: x11 :: x12 :: x13 :: x14 :: x15 :: x16 :: x17 :: x18 :: x19 :: x20 :: x21 :: y :: l) H Q := h
theorem z_var23 {x0 x1 x2 x3 x4 x5 x6 x7 x8 x9 x10 x11 x12 x13 x14 x15 x16 x17 x18 x19 x20 x21 x22 : Option V} {v : V} {l : L2.St} (h : Q v H) : tVar 23 (x0 :: x1 :: x2 :: x3 :: x4 :: x5 :: x6 :: x7 :: x8 :: x9 :: x10 :: x11 :: x12 :: x13 :: x14 :: x15 :: x16 :: x17 :: x18 :: x19 :: x20 :: x21 :: x22 :: some v :: l) H Q := ⟨v, rfl, h⟩
theorem z_nm23 {x0 x1 x2 x3 x4 x5 x6 x7 x8 x9 x10 x11 x12 x13 x14 x15 x16 x17 x18 x19 x20 x21 x22 : Option V} {y : Option V} {v : V} {l : L2.St} {Q : L2.St → Hp → Prop} (h : Q (x0 :: x1 :: x2 :: x3 :: x4 :: x5 :: x6 :: x7 :: x8 :: x9 :: x10 :: x11 :: x12 :: x13 :: x14 :: x15 :: x16 :: x17 :: x18 :: x19 :: x20 :: x21 :: x22 :: some v :: l) H) : gName 23 v (x0 :: x1 :: x2 :: x3 :: x4 :: x5 :: x6 :: x7 :: x8 :: x9 :: x10 :: x11 :: x12 :: x13 :: x14 :: x15 :: x16 :: x17 :: x18 :: x19 :: x20 :: x21 :: x22 :: y :: l) H Q := h
/-! the same as instances: the step is found by its head -/
class Stp (goal : Prop) (sub : outParam Prop) : Prop where
  h : sub → goal
instance i_z_seq {t u : TS} : Stp (tSeq t u D σ H) (t { D with nx := u D } σ H) := ⟨z_seq⟩
instance i_z_next : Stp (tNext D σ H) (D.nx σ H) := ⟨z_next⟩
instance i_z_brk : Stp (tBreak D σ H) (D.bk σ H) := ⟨z_brk⟩
instance i_z_cont : Stp (tCont D σ H) (D.ct σ H) := ⟨z_cont⟩
instance i_z_asg {te : TE} {g : TG} : Stp (tAsg te g D σ H) (te σ H fun x H1 => g x σ H1 D.nx) := ⟨z_asg⟩
instance i_z_drop {te : TE} : Stp (tDrop te D σ H) (te σ H fun _ H1 => D.nx σ H1) := ⟨z_drop⟩
instance i_z_ret {te : TE} : Stp (tRet te D σ H) (te σ H D.rt) := ⟨z_ret⟩
instance i_z_retN : Stp (tRetN D σ H) (D.rt .non H) := ⟨z_retN⟩
instance i_z_ifs {c : TT} {t u : TS} : Stp (tIfS c t u D σ H) (c σ H fun b H1 => if b = true then t D σ H1 else u D σ H1) := ⟨z_ifs⟩
instance i_z_cut {t u : TS} : Stp (Evl.tCut t u D σ H) (∃ Mid : L2.St → Hp → Prop, t { D with nx := Mid } σ H ∧ ∀ σ' H', Mid σ' H' → u D σ' H') := ⟨z_cut⟩
instance i_z_flds {ta tv : TE} {f : Str} : Stp (sFld K ta tv f D σ H) (tv σ H fun y H1 => ta σ H1 fun x H2 => oFldS K f x y (D.nx σ) H2) := ⟨z_flds⟩
instance i_z_dput {td ty tv : TE} : Stp (sDPut td ty tv D σ H) (tv σ H fun v H1 => td σ H1 fun x H2 => ty σ H2 fun y H3 => oDPut x y v (D.nx σ) H3) := ⟨z_dput⟩
instance i_z_gcons {t : TG} {u : TGs} {v : V} {r : List V} {Q : L2.St → Hp → Prop} : Stp (gCons t u (v :: r) σ H Q) (t v σ H fun σ' H' => u r σ' H' Q) := ⟨z_gcons⟩
instance i_z_gnil {Q : L2.St → Hp → Prop} : Stp (gNil [] σ H Q) (Q σ H) := ⟨z_gnil⟩
instance i_z_gsub {to ti : TE} {t : TSet} {v : V} {Q : L2.St → Hp → Prop} : Stp (gSub to ti t v σ H Q) (to σ H fun o H1 => ti σ H1 fun i H2 => t o i v H2 fun H3 => Q σ H3) := ⟨z_gsub⟩
instance i_z_c {v : V} : Stp (tC v σ H Q) (Q v H) := ⟨z_c⟩
instance i_z_op {r : R2} {ta tb : TE} : Stp (tOp r ta tb σ H Q) (ta σ H fun x H1 => tb σ H1 fun y H2 => r x y H2 Q) := ⟨z_op⟩
instance i_z_un {r : V → Hp → VK → Prop} {ta : TE} : Stp (tUn r ta σ H Q) (ta σ H fun x H1 => r x H1 Q) := ⟨z_un⟩
instance i_z_tup {t : TA} : Stp (tTup t σ H Q) (t σ H fun xs H1 => oNew (.tup xs) xs.length H1 Q) := ⟨z_tup⟩
instance i_z_lst {t : TA} : Stp (tLst t σ H Q) (t σ H fun xs H1 => oNew (.lst xs) xs.length H1 Q) := ⟨z_lst⟩
instance i_z_dnew : Stp (tDNewK σ H Q) (∀ p H1, H p = none → Fr [] H H1 → H1 p = some (.dK []) → Q (.ref p) H1) := ⟨z_dnew⟩
instance i_z_nil {Q : List V → Hp → Prop} : Stp (tNil σ H Q) (Q [] H) := ⟨z_nil⟩
instance i_z_cons {ta : TE} {tr : TA} {Q : List V → Hp → Prop} : Stp (tCons ta tr σ H Q) (ta σ H fun x H1 => tr σ H1 fun xs H2 => Q (x :: xs) H2) := ⟨z_cons⟩
instance i_z_cb {r : List V → Hp → VK → Prop} {t : TA} : Stp (tCB r t σ H Q) (t σ H fun vs H1 => r vs H1 Q) := ⟨z_cb⟩
instance i_z_call {sp : Sp} {dvs : List V} {E : XK} {t : TA} : Stp (tCall sp dvs E t σ H Q) (t σ H fun vs H1 => sp (vs ++ dvs) H1 Q E) := ⟨z_call⟩
instance i_z_meth {C : Addr} {m : Str} {sp : Sp} {dvs : List V} {E : XK} {ta : TE} {t : TA} : Stp (tMeth C m sp dvs E ta t σ H Q) (ta σ H fun x H1 => oMeth C m x (fun H1 => t σ H1 fun vs H2 => sp (x :: (vs ++ dvs)) H2 Q E) H1) := ⟨z_meth⟩
instance i_z_make {C : Addr} {sp : Sp} {dvs : List V} {E : XK} {t : TA} : Stp (tMake C sp dvs E t σ H Q) (t σ H fun vs H1 => ∀ x dx, H1 x = none → H1 dx = none → dx ≠ x → sp (.ref x :: (vs ++ dvs)) (upd (upd H1 dx (.own x)) x (.ins C dx [])) (fun v H2 => v = .non ∧ Q (.ref x) H2) E) := ⟨z_make⟩
instance i_z_fld {ta : TE} {f : Str} : Stp (tFld K ta f σ H Q) (ta σ H fun x H1 => oFld K f x H1 Q) := ⟨z_fld⟩
instance i_z_test {t : TE} {Q : Bool → Hp → Prop} : Stp (tTest t σ H Q) (t σ H fun x H' => oBl x H' Q) := ⟨z_test⟩
instance i_z_tB {t : TE} {Q : Bool → Hp → Prop} : Stp (tB t σ H Q) (t σ H fun x H' => oBl x H' Q) := ⟨z_tB⟩
instance i_z_bl {k : Bool} {Q : Bool → Hp → Prop} : Stp (oBl (.bl k) H Q) (Q k H) := ⟨z_bl⟩
instance i_z_truK {ta : TE} {Q : Bool → Hp → Prop} : Stp (tTruK K ta σ H Q) (ta σ H fun x H' => oTru K x H' Q) := ⟨z_truK⟩
instance i_z_truI {k : Bool → Prop} {x : V} : Stp (∃ b, TruV K x H b ∧ k b) (oTru K x H (fun b _ => k b)) := ⟨z_truI⟩
instance i_z_notT {ta : TE} : Stp (tNotT K ta σ H Q) (ta σ H fun x H' => oTru K x H' fun k H' => Q (.bl (!k)) H') := ⟨z_notT⟩
instance i_z_truB {k : Bool} {Q : Bool → Hp → Prop} : Stp (oTru K (.bl k) H Q) (Q k H) := ⟨z_truB⟩
instance i_z_truN {Q : Bool → Hp → Prop} : Stp (oTru K .non H Q) (Q false H) := ⟨z_truN⟩
instance i_z_truZ {i : Int} {Q : Bool → Hp → Prop} : Stp (oTru K (.int i) H Q) (Q (i != 0) H) := ⟨z_truZ⟩
instance i_z_tand {t u : TT} {Q : Bool → Hp → Prop} : Stp (tAnd t u σ H Q) (t σ H fun c H1 => if c = true then u σ H1 Q else Q false H1) := ⟨z_tand⟩
instance i_z_tor {t u : TT} {Q : Bool → Hp → Prop} : Stp (tOr t u σ H Q) (t σ H fun c H1 => if c = true then Q true H1 else u σ H1 Q) := ⟨z_tor⟩
instance i_z_tnot {t : TT} {Q : Bool → Hp → Prop} : Stp (tNot t σ H Q) (t σ H fun c H1 => Q (!c) H1) := ⟨z_tnot⟩
instance i_z_yes {Q : Bool → Hp → Prop} : Stp (tYes σ H Q) (Q true H) := ⟨z_yes⟩
instance i_z_andV {ta tb : TE} : Stp (tAndV ta tb σ H Q) (ta σ H fun x H1 => oBl x H1 fun c H1 => if c = true then tb σ H1 Q else Q (.bl false) H1) := ⟨z_andV⟩
instance i_z_orV {ta tb : TE} : Stp (tOrV ta tb σ H Q) (ta σ H fun x H1 => oBl x H1 fun c H1 => if c = true then Q (.bl true) H1 else tb σ H1 Q) := ⟨z_orV⟩
instance i_z_tIf {t : TT} {ta tb : TE} : Stp (tIf t ta tb σ H Q) (t σ H fun c H1 => if c = true then ta σ H1 Q else tb σ H1 Q) := ⟨z_tIf⟩
instance i_z_addI {i j : Int} : Stp (rAddU K (.int i) (.int j) H Q) (Q (.int (i + j)) H) := ⟨z_addI⟩
instance i_z_rI0 {g : Int → Int → V} {i j : Int} : Stp (rI0 g (.int i) (.int j) H Q) (Q (g i j) H) := ⟨z_rI0⟩
instance i_z_rU {g : Int → V} {i : Int} : Stp (rU g (.int i) H Q) (Q (g i) H) := ⟨z_rU⟩
instance i_z_ordI {f : Int → Int → Bool} {g : List Nat → List Nat → Bool} {i j : Int} : Stp (rOrd f g (.int i) (.int j) H Q) (Q (.bl (f i j)) H) := ⟨z_ordI⟩
instance i_z_ordS {f : Int → Int → Bool} {g : List Nat → List Nat → Bool} {i j : Str} : Stp (rOrd f g (.str i) (.str j) H Q) (Q (.bl (g i.cps.toList j.cps.toList)) H) := ⟨z_ordS⟩
instance i_z_eqI {i j : Int} : Stp (rEqU K id (.int i) (.int j) H Q) (Q (.bl (decide (i = j))) H) := ⟨z_eqI⟩
instance i_z_neI {i j : Int} : Stp (rEqU K (!·) (.int i) (.int j) H Q) (Q (.bl (!decide (i = j))) H) := ⟨z_neI⟩
instance i_z_eqS {i j : Str} : Stp (rEqU K id (.str i) (.str j) H Q) (Q (.bl (decide (i = j))) H) := ⟨z_eqS⟩
instance i_z_neS {i j : Str} : Stp (rEqU K (!·) (.str i) (.str j) H Q) (Q (.bl (!decide (i = j))) H) := ⟨z_neS⟩
instance i_z_isNP {x : V} : Stp (rIsU id x .non H Q) (Q (.bl ((decide (x = .non)))) H) := ⟨z_isNP⟩
instance i_z_isNQ {x : V} : Stp (rIsU (!·) x .non H Q) (Q (.bl (!(decide (x = .non)))) H) := ⟨z_isNQ⟩
instance i_z_isNiP {i : Int} : Stp (rIsU id (.int i) .non H Q) (Q (.bl false) H) := ⟨z_isNiP⟩
instance i_z_isNiN {i : Int} : Stp (rIsU (!·) (.int i) .non H Q) (Q (.bl true) H) := ⟨z_isNiN⟩
instance i_z_isNsP {i : Str} : Stp (rIsU id (.str i) .non H Q) (Q (.bl false) H) := ⟨z_isNsP⟩
instance i_z_isNsN {i : Str} : Stp (rIsU (!·) (.str i) .non H Q) (Q (.bl true) H) := ⟨z_isNsN⟩
instance i_z_isNrP {a : Addr} : Stp (rIsU id (.ref a) .non H Q) (Q (.bl false) H) := ⟨z_isNrP⟩
instance i_z_isNrN {a : Addr} : Stp (rIsU (!·) (.ref a) .non H Q) (Q (.bl true) H) := ⟨z_isNrN⟩
instance i_z_isNbP {b : Bool} : Stp (rIsU id (.bl b) .non H Q) (Q (.bl false) H) := ⟨z_isNbP⟩
instance i_z_isNbN {b : Bool} : Stp (rIsU (!·) (.bl b) .non H Q) (Q (.bl true) H) := ⟨z_isNbN⟩
instance i_z_isNnP : Stp (rIsU id .non .non H Q) (Q (.bl true) H) := ⟨z_isNnP⟩
instance i_z_isNnN : Stp (rIsU (!·) .non .non H Q) (Q (.bl false) H) := ⟨z_isNnN⟩
instance i_z_isBP {x : V} {b : Bool} : Stp (rIsU id x (.bl b) H Q) (Q (.bl ((decide (x = .bl b)))) H) := ⟨z_isBP⟩
instance i_z_isBQ {x : V} {b : Bool} : Stp (rIsU (!·) x (.bl b) H Q) (Q (.bl (!(decide (x = .bl b)))) H) := ⟨z_isBQ⟩
instance i_z_sl {r : V → Option Int → Option Int → Hp → VK → Prop} {te : TE} {tl th : TO} : Stp (tSl r te tl th σ H Q) (te σ H fun x H1 => tl σ H1 fun l H2 => th σ H2 fun u H3 => r x l u H3 Q) := ⟨z_sl⟩
instance i_z_nopart {Q : Option Int → Hp → Prop} : Stp (tNoPart σ H Q) (Q none H) := ⟨z_nopart⟩
instance i_z_part {t : TE} {Q : Option Int → Hp → Prop} : Stp (tPart t σ H Q) (t σ H fun x H1 => oPart x H1 Q) := ⟨z_part⟩
instance i_z_part1 {i : Int} {Q : Option Int → Hp → Prop} : Stp (oPart (.int i) H Q) (Q (some i) H) := ⟨z_part1⟩
instance i_z_intI {i : Int} : Stp (rIntU [.int i] H Q) (Q (.int i) H) := ⟨z_intI⟩
instance i_z_intB {k : Bool} : Stp (rIntU [.bl k] H Q) (Q (.int (if k then 1 else 0)) H) := ⟨z_intB⟩
instance i_z_isi_int_int {i : Int} : Stp (rIsi K [.int i, .ty "int"] H Q) (Q (.bl true) H) := ⟨z_isi_int_int⟩
instance i_z_isi_int_bool {i : Int} : Stp (rIsi K [.int i, .ty "bool"] H Q) (Q (.bl false) H) := ⟨z_isi_int_bool⟩
instance i_z_isi_int_str {i : Int} : Stp (rIsi K [.int i, .ty "str"] H Q) (Q (.bl false) H) := ⟨z_isi_int_str⟩
instance i_z_isi_int_list {i : Int} : Stp (rIsi K [.int i, .ty "list"] H Q) (Q (.bl false) H) := ⟨z_isi_int_list⟩
instance i_z_isi_int_tuple {i : Int} : Stp (rIsi K [.int i, .ty "tuple"] H Q) (Q (.bl false) H) := ⟨z_isi_int_tuple⟩
instance i_z_isi_int_dict {i : Int} : Stp (rIsi K [.int i, .ty "dict"] H Q) (Q (.bl false) H) := ⟨z_isi_int_dict⟩
instance i_z_isi_str_int {i : Str} : Stp (rIsi K [.str i, .ty "int"] H Q) (Q (.bl false) H) := ⟨z_isi_str_int⟩
instance i_z_isi_str_bool {i : Str} : Stp (rIsi K [.str i, .ty "bool"] H Q) (Q (.bl false) H) := ⟨z_isi_str_bool⟩
instance i_z_isi_str_str {i : Str} : Stp (rIsi K [.str i, .ty "str"] H Q) (Q (.bl true) H) := ⟨z_isi_str_str⟩
instance i_z_isi_str_list {i : Str} : Stp (rIsi K [.str i, .ty "list"] H Q) (Q (.bl false) H) := ⟨z_isi_str_list⟩
instance i_z_isi_str_tuple {i : Str} : Stp (rIsi K [.str i, .ty "tuple"] H Q) (Q (.bl false) H) := ⟨z_isi_str_tuple⟩
instance i_z_isi_str_dict {i : Str} : Stp (rIsi K [.str i, .ty "dict"] H Q) (Q (.bl false) H) := ⟨z_isi_str_dict⟩
instance i_z_isi_bool_int {i : Bool} : Stp (rIsi K [.bl i, .ty "int"] H Q) (Q (.bl true) H) := ⟨z_isi_bool_int⟩
instance i_z_isi_bool_bool {i : Bool} : Stp (rIsi K [.bl i, .ty "bool"] H Q) (Q (.bl true) H) := ⟨z_isi_bool_bool⟩
instance i_z_isi_bool_str {i : Bool} : Stp (rIsi K [.bl i, .ty "str"] H Q) (Q (.bl false) H) := ⟨z_isi_bool_str⟩
instance i_z_isi_bool_list {i : Bool} : Stp (rIsi K [.bl i, .ty "list"] H Q) (Q (.bl false) H) := ⟨z_isi_bool_list⟩
instance i_z_isi_bool_tuple {i : Bool} : Stp (rIsi K [.bl i, .ty "tuple"] H Q) (Q (.bl false) H) := ⟨z_isi_bool_tuple⟩
instance i_z_isi_bool_dict {i : Bool} : Stp (rIsi K [.bl i, .ty "dict"] H Q) (Q (.bl false) H) := ⟨z_isi_bool_dict⟩
instance i_z_bm0 {T : String} {r : V → List V → Hp → VK → Prop} {to : TE} : Stp (tBM0 K T r to σ H Q) (to σ H fun x H1 => oBM K T x (fun H1 => r x [] H1 Q) H1) := ⟨z_bm0⟩
instance i_z_bm {T : String} {r : V → List V → Hp → VK → Prop} {to : TE} {t : TA} : Stp (tBM K T r to t σ H Q) (to σ H fun x H1 => oBM K T x (fun H1 => t σ H1 fun xs H2 => r x xs H2 Q) H1) := ⟨z_bm⟩
instance i_z_bmS {z : Str} {R : Hp → Prop} : Stp (oBM K "str" (.str z) R H) (R H) := ⟨z_bmS⟩
instance i_z_for {wi : TI} {g : TG} {tb : TS} : Stp (tFor wi g tb D σ H) (wi σ H fun J H1 => ∃ W : Nat → Nat → L2.St → Hp → Prop, (∃ m, W 0 m σ H1) ∧ ∀ i m σ H, W i m σ H → (J.stop i H ∧ D.nx σ H) ∨ (J.go i H ∧ ∃ N : L2.St → Hp → Prop, (∀ σ' H', N σ' H' → ∃ m', m' < m ∧ W (i + 1) m' σ' H') ∧ ∀ x H', J.yld i H x H' → g x σ H' fun σ2 H2 => tb { D with nx := N, ct := N, bk := D.nx } σ2 H2)) := ⟨z_for⟩
instance i_z_iList {tl : TE} {R : It → Hp → Prop} : Stp (iList K tl σ H R) (tl σ H fun x H1 => oIter K x H1 R) := ⟨z_iList⟩
instance i_z_iRng1 {ta : TA} {R : It → Hp → Prop} : Stp (iRng1 ta σ H R) (ta σ H fun vs H1 => oRng1 vs H1 R) := ⟨z_iRng1⟩
instance i_z_iRng2 {ta : TA} {R : It → Hp → Prop} : Stp (iRng2 ta σ H R) (ta σ H fun vs H1 => oRng2 vs H1 R) := ⟨z_iRng2⟩
instance i_z_lc {wi : TI} {g : TG} {tt : TT} {te : TE} {vs : List Nat} : Stp (tLc wi g tt te vs σ H Q) (wi σ H fun J H1 => oLc J g tt te vs σ H1 Q) := ⟨z_lc⟩
instance i_z_iteTT {A B : Prop} : Stp (if true = true then A else B) (A) := ⟨z_iteTT⟩
instance i_z_iteFF {A B : Prop} : Stp (if false = true then A else B) (B) := ⟨z_iteFF⟩
instance i_z_iteNT {A B : Prop} : Stp (if (!true) = true then A else B) (B) := ⟨z_iteNT⟩
instance i_z_iteNF {A B : Prop} : Stp (if (!false) = true then A else B) (A) := ⟨z_iteNF⟩
instance i_z_iteS1 {α : Type} {v : α} {A B : Prop} : Stp (if (some v).isSome = true then A else B) (A) := ⟨z_iteS1⟩
instance i_z_iteS2 {α : Type} {v : α} {A B : Prop} : Stp (if (!(some v).isSome) = true then A else B) (B) := ⟨z_iteS2⟩
instance i_z_iteS3 {α : Type} {A B : Prop} : Stp (if (none : Option α).isSome = true then A else B) (B) := ⟨z_iteS3⟩
instance i_z_iteS4 {α : Type} {A B : Prop} : Stp (if (!(none : Option α).isSome) = true then A else B) (A) := ⟨z_iteS4⟩
instance i_z_lockAsg {te : TE} {i : Nat} : Stp (tLock (tAsg te (gName i)) D σ H) (tLockE te σ H fun x H1 => gName i x σ H1 D.nx) := ⟨z_lockAsg⟩
instance i_z_var0 {v : V} {l : L2.St} : Stp (tVar 0 (some v :: l) H Q) (Q v H) := ⟨z_var0⟩
instance i_z_nm0 {y : Option V} {v : V} {l : L2.St} {Q : L2.St → Hp → Prop} : Stp (gName 0 v (y :: l) H Q) (Q (some v :: l) H) := ⟨z_nm0⟩
instance i_z_var1 {x0 : Option V} {v : V} {l : L2.St} : Stp (tVar 1 (x0 :: some v :: l) H Q) (Q v H) := ⟨z_var1⟩
instance i_z_nm1 {x0 : Option V} {y : Option V} {v : V} {l : L2.St} {Q : L2.St → Hp → Prop} : Stp (gName 1 v (x0 :: y :: l) H Q) (Q (x0 :: some v :: l) H) := ⟨z_nm1⟩
instance i_z_var2 {x0 x1 : Option V} {v : V} {l : L2.St} : Stp (tVar 2 (x0 :: x1 :: some v :: l) H Q) (Q v H) := ⟨z_var2⟩
instance i_z_nm2 {x0 x1 : Option V} {y : Option V} {v : V} {l : L2.St} {Q : L2.St → Hp → Prop} : Stp (gName 2 v (x0 :: x1 :: y :: l) H Q) (Q (x0 :: x1 :: some v :: l) H) := ⟨z_nm2⟩
instance i_z_var3 {x0 x1 x2 : Option V} {v : V} {l : L2.St} : Stp (tVar 3 (x0 :: x1 :: x2 :: some v :: l) H Q) (Q v H) := ⟨z_var3⟩
instance i_z_nm3 {x0 x1 x2 : Option V} {y : Option V} {v : V} {l : L2.St} {Q : L2.St → Hp → Prop} : Stp (gName 3 v (x0 :: x1 :: x2 :: y :: l) H Q) (Q (x0 :: x1 :: x2 :: some v :: l) H) := ⟨z_nm3⟩
instance i_z_var4 {x0 x1 x2 x3 : Option V} {v : V} {l : L2.St} : Stp (tVar 4 (x0 :: x1 :: x2 :: x3 :: some v :: l) H Q) (Q v H) := ⟨z_var4⟩
instance i_z_nm4 {x0 x1 x2 x3 : Option V} {y : Option V} {v : V} {l : L2.St} {Q : L2.St → Hp → Prop} : Stp (gName 4 v (x0 :: x1 :: x2 :: x3 :: y :: l) H Q) (Q (x0 :: x1 :: x2 :: x3 :: some v :: l) H) := ⟨z_nm4⟩
instance i_z_var5 {x0 x1 x2 x3 x4 : Option V} {v : V} {l : L2.St} : Stp (tVar 5 (x0 :: x1 :: x2 :: x3 :: x4 :: some v :: l) H Q) (Q v H) := ⟨z_var5⟩
instance i_z_nm5 {x0 x1 x2 x3 x4 : Option V} {y : Option V} {v : V} {l : L2.St} {Q : L2.St → Hp → Prop} : Stp (gName 5 v (x0 :: x1 :: x2 :: x3 :: x4 :: y :: l) H Q) (Q (x0 :: x1 :: x2 :: x3 :: x4 :: some v :: l) H) := ⟨z_nm5⟩
instance i_z_var6 {x0 x1 x2 x3 x4 x5 : Option V} {v : V} {l : L2.St} : Stp (tVar 6 (x0 :: x1 :: x2 :: x3 :: x4 :: x5 :: some v :: l) H Q) (Q v H) := ⟨z_var6⟩
instance i_z_nm6 {x0 x1 x2 x3 x4 x5 : Option V} {y : Option V} {v : V} {l : L2.St} {Q : L2.St → Hp → Prop} : Stp (gName 6 v (x0 :: x1 :: x2 :: x3 :: x4 :: x5 :: y :: l) H Q) (Q (x0 :: x1 :: x2 :: x3 :: x4 :: x5 :: some v :: l) H) := ⟨z_nm6⟩
instance i_z_var7 {x0 x1 x2 x3 x4 x5 x6 : Option V} {v : V} {l : L2.St} : Stp (tVar 7 (x0 :: x1 :: x2 :: x3 :: x4 :: x5 :: x6 :: some v :: l) H Q) (Q v H) := ⟨z_var7⟩
instance i_z_nm7 {x0 x1 x2 x3 x4 x5 x6 : Option V} {y : Option V} {v : V} {l : L2.St} {Q : L2.St → Hp → Prop} : Stp (gName 7 v (x0 :: x1 :: x2 :: x3 :: x4 :: x5 :: x6 :: y :: l) H Q) (Q (x0 :: x1 :: x2 :: x3 :: x4 :: x5 :: x6 :: some v :: l) H) := ⟨z_nm7⟩
instance i_z_var8 {x0 x1 x2 x3 x4 x5 x6 x7 : Option V} {v : V} {l : L2.St} : Stp (tVar 8 (x0 :: x1 :: x2 :: x3 :: x4 :: x5 :: x6 :: x7 :: some v :: l) H Q) (Q v H) := ⟨z_var8⟩
instance i_z_nm8 {x0 x1 x2 x3 x4 x5 x6 x7 : Option V} {y : Option V} {v : V} {l : L2.St} {Q : L2.St → Hp → Prop} : Stp (gName 8 v (x0 :: x1 :: x2 :: x3 :: x4 :: x5 :: x6 :: x7 :: y :: l) H Q) (Q (x0 :: x1 :: x2 :: x3 :: x4 :: x5 :: x6 :: x7 :: some v :: l) H) := ⟨z_nm8⟩
instance i_z_var9 {x0 x1 x2 x3 x4 x5 x6 x7 x8 : Option V} {v : V} {l : L2.St} : Stp (tVar 9 (x0 :: x1 :: x2 :: x3 :: x4 :: x5 :: x6 :: x7 :: x8 :: some v :: l) H Q) (Q v H) := ⟨z_var9⟩
instance i_z_nm9 {x0 x1 x2 x3 x4 x5 x6 x7 x8 : Option V} {y : Option V} {v : V} {l : L2.St} {Q : L2.St → Hp → Prop} : Stp (gName 9 v (x0 :: x1 :: x2 :: x3 :: x4 :: x5 :: x6 :: x7 :: x8 :: y :: l) H Q) (Q (x0 :: x1 :: x2 :: x3 :: x4 :: x5 :: x6 :: x7 :: x8 :: some v :: l) H) := ⟨z_nm9⟩
instance i_z_var10 {x0 x1 x2 x3 x4 x5 x6 x7 x8 x9 : Option V} {v : V} {l : L2.St} : Stp (tVar 10 (x0 :: x1 :: x2 :: x3 :: x4 :: x5 :: x6 :: x7 :: x8 :: x9 :: some v :: l) H Q) (Q v H) := ⟨z_var10⟩
instance i_z_nm10 {x0 x1 x2 x3 x4 x5 x6 x7 x8 x9 : Option V} {y : Option V} {v : V} {l : L2.St} {Q : L2.St → Hp → Prop} : Stp (gName 10 v (x0 :: x1 :: x2 :: x3 :: x4 :: x5 :: x6 :: x7 :: x8 :: x9 :: y :: l) H Q) (Q (x0 :: x1 :: x2 :: x3 :: x4 :: x5 :: x6 :: x7 :: x8 :: x9 :: some v :: l) H) := ⟨z_nm10⟩
instance i_z_var11 {x0 x1 x2 x3 x4 x5 x6 x7 x8 x9 x10 : Option V} {v : V} {l : L2.St} : Stp (tVar 11 (x0 :: x1 :: x2 :: x3 :: x4 :: x5 :: x6 :: x7 :: x8 :: x9 :: x10 :: some v :: l) H Q) (Q v H) := ⟨z_var11⟩
instance i_z_nm11 {x0 x1 x2 x3 x4 x5 x6 x7 x8 x9 x10 : Option V} {y : Option V} {v : V} {l : L2.St} {Q : L2.St → Hp → Prop} : Stp (gName 11 v (x0 :: x1 :: x2 :: x3 :: x4 :: x5 :: x6 :: x7 :: x8 :: x9 :: x10 :: y :: l) H Q) (Q (x0 :: x1 :: x2 :: x3 :: x4 :: x5 :: x6 :: x7 :: x8 :: x9 :: x10 :: some v :: l) H) := ⟨z_nm11⟩
instance i_z_var12 {x0 x1 x2 x3 x4 x5 x6 x7 x8 x9 x10 x11 : Option V} {v : V} {l : L2.St} : Stp (tVar 12 (x0 :: x1 :: x2 :: x3 :: x4 :: x5 :: x6 :: x7 :: x8 :: x9 :: x10 :: x11 :: some v :: l) H Q) (Q v H) := ⟨z_var12⟩
instance i_z_nm12 {x0 x1 x2 x3 x4 x5 x6 x7 x8 x9 x10 x11 : Option V} {y : Option V} {v : V} {l : L2.St} {Q : L2.St → Hp → Prop} : Stp (gName 12 v (x0 :: x1 :: x2 :: x3 :: x4 :: x5 :: x6 :: x7 :: x8 :: x9 :: x10 :: x11 :: y :: l) H Q) (Q (x0 :: x1 :: x2 :: x3 :: x4 :: x5 :: x6 :: x7 :: x8 :: x9 :: x10 :: x11 :: some v :: l) H) := ⟨z_nm12⟩
instance i_z_var13 {x0 x1 x2 x3 x4 x5 x6 x7 x8 x9 x10 x11 x12 : Option V} {v : V} {l : L2.St} : Stp (tVar 13 (x0 :: x1 :: x2 :: x3 :: x4 :: x5 :: x6 :: x7 :: x8 :: x9 :: x10 :: x11 :: x12 :: some v :: l) H Q) (Q v H) := ⟨z_var13⟩
instance i_z_nm13 {x0 x1 x2 x3 x4 x5 x6 x7 x8 x9 x10 x11 x12 : Option V} {y : Option V} {v : V} {l : L2.St} {Q : L2.St → Hp → Prop} : Stp (gName 13 v (x0 :: x1 :: x2 :: x3 :: x4 :: x5 :: x6 :: x7 :: x8 :: x9 :: x10 :: x11 :: x12 :: y :: l) H Q) (Q (x0 :: x1 :: x2 :: x3 :: x4 :: x5 :: x6 :: x7 :: x8 :: x9 :: x10 :: x11 :: x12 :: some v :: l) H) := ⟨z_nm13⟩
instance i_z_var14 {x0 x1 x2 x3 x4 x5 x6 x7 x8 x9 x10 x11 x12 x13 : Option V} {v : V} {l : L2.St} : Stp (tVar 14 (x0 :: x1 :: x2 :: x3 :: x4 :: x5 :: x6 :: x7 :: x8 :: x9 :: x10 :: x11 :: x12 :: x13 :: some v :: l) H Q) (Q v H) := ⟨z_var14⟩
instance i_z_nm14 {x0 x1 x2 x3 x4 x5 x6 x7 x8 x9 x10 x11 x12 x13 : Option V} {y : Option V} {v : V} {l : L2.St} {Q : L2.St → Hp → Prop} : Stp (gName 14 v (x0 :: x1 :: x2 :: x3 :: x4 :: x5 :: x6 :: x7 :: x8 :: x9 :: x10 :: x11 :: x12 :: x13 :: y :: l) H Q) (Q (x0 :: x1 :: x2 :: x3 :: x4 :: x5 :: x6 :: x7 :: x8 :: x9 :: x10 :: x11 :: x12 :: x13 :: some v :: l) H) := ⟨z_nm14⟩
instance i_z_var15 {x0 x1 x2 x3 x4 x5 x6 x7 x8 x9 x10 x11 x12 x13 x14 : Option V} {v : V} {l : L2.St} : Stp (tVar 15 (x0 :: x1 :: x2 :: x3 :: x4 :: x5 :: x6 :: x7 :: x8 :: x9 :: x10 :: x11 :: x12 :: x13 :: x14 :: some v :: l) H Q) (Q v H) := ⟨z_var15⟩
instance i_z_nm15 {x0 x1 x2 x3 x4 x5 x6 x7 x8 x9 x10 x11 x12 x13 x14 : Option V} {y : Option V} {v : V} {l : L2.St} {Q : L2.St → Hp → Prop} : Stp (gName 15 v (x0 :: x1 :: x2 :: x3 :: x4 :: x5 :: x6 :: x7 :: x8 :: x9 :: x10 :: x11 :: x12 :: x13 :: x14 :: y :: l) H Q) (Q (x0 :: x1 :: x2 :: x3 :: x4 :: x5 :: x6 :: x7 :: x8 :: x9 :: x10 :: x11 :: x12 :: x13 :: x14 :: some v :: l) H) := ⟨z_nm15⟩
instance i_z_var16 {x0 x1 x2 x3 x4 x5 x6 x7 x8 x9 x10 x11 x12 x13 x14 x15 : Option V} {v : V} {l : L2.St} : Stp (tVar 16 (x0 :: x1 :: x2 :: x3 :: x4 :: x5 :: x6 :: x7 :: x8 :: x9 :: x10 :: x11 :: x12 :: x13 :: x14 :: x15 :: some v :: l) H Q) (Q v H) := ⟨z_var16⟩
instance i_z_nm16 {x0 x1 x2 x3 x4 x5 x6 x7 x8 x9 x10 x11 x12 x13 x14 x15 : Option V} {y : Option V} {v : V} {l : L2.St} {Q : L2.St → Hp → Prop} : Stp (gName 16 v (x0 :: x1 :: x2 :: x3 :: x4 :: x5 :: x6 :: x7 :: x8 :: x9 :: x10 :: x11 :: x12 :: x13 :: x14 :: x15 :: y :: l) H Q) (Q (x0 :: x1 :: x2 :: x3 :: x4 :: x5 :: x6 :: x7 :: x8 :: x9 :: x10 :: x11 :: x12 :: x13 :: x14 :: x15 :: some v :: l) H) := ⟨z_nm16⟩
instance i_z_var17 {x0 x1 x2 x3 x4 x5 x6 x7 x8 x9 x10 x11 x12 x13 x14 x15 x16 : Option V} {v : V} {l : L2.St} : Stp (tVar 17 (x0 :: x1 :: x2 :: x3 :: x4 :: x5 :: x6 :: x7 :: x8 :: x9 :: x10 :: x11 :: x12 :: x13 :: x14 :: x15 :: x16 :: some v :: l) H Q) (Q v H) := ⟨z_var17⟩
instance i_z_nm17 {x0 x1 x2 x3 x4 x5 x6 x7 x8 x9 x10 x11 x12 x13 x14 x15 x16 : Option V} {y : Option V} {v : V} {l : L2.St} {Q : L2.St → Hp → Prop} : Stp (gName 17 v (x0 :: x1 :: x2 :: x3 :: x4 :: x5 :: x6 :: x7 :: x8 :: x9 :: x10 :: x11 :: x12 :: x13 :: x14 :: x15 :: x16 :: y :: l) H Q) (Q (x0 :: x1 :: x2 :: x3 :: x4 :: x5 :: x6 :: x7 :: x8 :: x9 :: x10 :: x11 :: x12 :: x13 :: x14 :: x15 :: x16 :: some v :: l) H) := ⟨z_nm17⟩
instance i_z_var18 {x0 x1 x2 x3 x4 x5 x6 x7 x8 x9 x10 x11 x12 x13 x14 x15 x16 x17 : Option V} {v : V} {l : L2.St} : Stp (tVar 18 (x0 :: x1 :: x2 :: x3 :: x4 :: x5 :: x6 :: x7 :: x8 :: x9 :: x10 :: x11 :: x12 :: x13 :: x14 :: x15 :: x16 :: x17 :: some v :: l) H Q) (Q v H) := ⟨z_var18⟩
instance i_z_nm18 {x0 x1 x2 x3 x4 x5 x6 x7 x8 x9 x10 x11 x12 x13 x14 x15 x16 x17 : Option V} {y : Option V} {v : V} {l : L2.St} {Q : L2.St → Hp → Prop} : Stp (gName 18 v (x0 :: x1 :: x2 :: x3 :: x4 :: x5 :: x6 :: x7 :: x8 :: x9 :: x10 :: x11 :: x12 :: x13 :: x14 :: x15 :: x16 :: x17 :: y :: l) H Q) (Q (x0 :: x1 :: x2 :: x3 :: x4 :: x5 :: x6 :: x7 :: x8 :: x9 :: x10 :: x11 :: x12 :: x13 :: x14 :: x15 :: x16 :: x17 :: some v :: l) H) := ⟨z_nm18⟩
instance i_z_var19 {x0 x1 x2 x3 x4 x5 x6 x7 x8 x9 x10 x11 x12 x13 x14 x15 x16 x17 x18 : Option V} {v : V} {l : L2.St} : Stp (tVar 19 (x0 :: x1 :: x2 :: x3 :: x4 :: x5 :: x6 :: x7 :: x8 :: x9 :: x10 :: x11 :: x12 :: x13 :: x14 :: x15 :: x16 :: x17 :: x18 :: some v :: l) H Q) (Q v H) := ⟨z_var19⟩
instance i_z_nm19 {x0 x1 x2 x3 x4 x5 x6 x7 x8 x9 x10 x11 x12 x13 x14 x15 x16 x17 x18 : Option V} {y : Option V} {v : V} {l : L2.St} {Q : L2.St → Hp → Prop} : Stp (gName 19 v (x0 :: x1 :: x2 :: x3 :: x4 :: x5 :: x6 :: x7 :: x8 :: x9 :: x10 :: x11 :: x12 :: x13 :: x14 :: x15 :: x16 :: x17 :: x18 :: y :: l) H Q) (Q (x0 :: x1 :: x2 :: x3 :: x4 :: x5 :: x6 :: x7 :: x8 :: x9 :: x10 :: x11 :: x12 :: x13 :: x14 :: x15 :: x16 :: x17 :: x18 :: some v :: l) H) := ⟨z_nm19⟩
instance i_z_var20 {x0 x1 x2 x3 x4 x5 x6 x7 x8 x9 x10 x11 x12 x13 x14 x15 x16 x17 x18 x19 : Option V} {v : V} {l : L2.St} : Stp (tVar 20 (x0 :: x1 :: x2 :: x3 :: x4 :: x5 :: x6 :: x7 :: x8 :: x9 :: x10 :: x11 :: x12 :: x13 :: x14 :: x15 :: x16 :: x17 :: x18 :: x19 :: some v :: l) H Q) (Q v H) := ⟨z_var20⟩
instance i_z_nm20 {x0 x1 x2 x3 x4 x5 x6 x7 x8 x9 x10 x11 x12 x13 x14 x15 x16 x17 x18 x19 : Option V} {y : Option V} {v : V} {l : L2.St} {Q : L2.St → Hp → Prop} : Stp (gName 20 v (x0 :: x1 :: x2 :: x3 :: x4 :: x5 :: x6 :: x7 :: x8 :: x9 :: x10 :: x11 :: x12 :: x13 :: x14 :: x15 :: x16 :: x17 :: x18 :: x19 :: y :: l) H Q) (Q (x0 :: x1 :: x2 :: x3 :: x4 :: x5 :: x6 :: x7 :: x8 :: x9 :: x10 :: x11 :: x12 :: x13 :: x14 :: x15 :: x16 :: x17 :: x18 :: x19 :: some v :: l) H) := ⟨z_nm20⟩
instance i_z_var21 {x0 x1 x2 x3 x4 x5 x6 x7 x8 x9 x10 x11 x12 x13 x14 x15 x16 x17 x18 x19 x20 : Option V} {v : V} {l : L2.St} : Stp (tVar 21 (x0 :: x1 :: x2 :: x3 :: x4 :: x5 :: x6 :: x7 :: x8 :: x9 :: x10 :: x11 :: x12 :: x13 :: x14 :: x15 :: x16 :: x17 :: x18 :: x19 :: x20 :: some v :: l) H Q) (Q v H) := ⟨z_var21⟩
instance i_z_nm21 {x0 x1 x2 x3 x4 x5 x6 x7 x8 x9 x10 x11 x12 x13 x14 x15 x16 x17 x18 x19 x20 : Option V} {y : Option V} {v : V} {l : L2.St} {Q : L2.St → Hp → Prop} : Stp (gName 21 v (x0 :: x1 :: x2 :: x3 :: x4 :: x5 :: x6 :: x7 :: x8 :: x9 :: x10 :: x11 :: x12 :: x13 :: x14 :: x15 :: x16 :: x17 :: x18 :: x19 :: x20 :: y :: l) H Q) (Q (x0 :: x1 :: x2 :: x3 :: x4 :: x5 :: x6 :: x7 :: x8 :: x9 :: x10 :: x11 :: x12 :: x13 :: x14 :: x15 :: x16 :: x17 :: x18 :: x19 :: x20 :: some v :: l) H) := ⟨z_nm21⟩
instance i_z_var22 {x0 x1 x2 x3 x4 x5 x6 x7 x8 x9 x10 x11 x12 x13 x14 x15 x16 x17 x18 x19 x20 x21 : Option V} {v : V} {l : L2.St} : Stp (tVar 22 (x0 :: x1 :: x2 :: x3 :: x4 :: x5 :: x6 :: x7 :: x8 :: x9 :: x10 :: x11 :: x12 :: x13 :: x14 :: x15 :: x16 :: x17 :: x18 :: x19 :: x20 :: x21 :: some v :: l) H Q) (Q v H) := ⟨z_var22⟩
instance i_z_nm22 {x0 x1 x2 x3 x4 x5 x6 x7 x8 x9 x10 x11 x12 x13 x14 x15 x16 x17 x18 x19 x20 x21 : Option V} {y : Option V} {v : V} {l : L2.St} {Q : L2.St → Hp → Prop} : Stp (gName 22 v (x0 :: x1 :: x2 :: x3 :: x4 :: x5 :: x6 :: x7 :: x8 :: x9 :: x10 :: x11 :: x12 :: x13 :: x14 :: x15 :: x16 :: x17 :: x18 :: x19 :: x20 :: x21 :: y :: l) H Q) (Q (x0 :: x1 :: x2 :: x3 :: x4 :: x5 :: x6 :: x7 :: x8 :: x9 :: x10 :: x11 :: x12 :: x13 :: x14 :: x15 :: x16 :: x17 :: x18 :: x19 :: x20 :: x21 :: some v :: l) H) := ⟨z_nm22⟩
instance i_z_var23 {x0 x1 x2 x3 x4 x5 x6 x7 x8 x9 x10 x11 x12 x13 x14 x15 x16 x17 x18 x19 x20 x21 x22 : Option V} {v : V} {l : L2.St} : Stp (tVar 23 (x0 :: x1 :: x2 :: x3 :: x4 :: x5 :: x6 :: x7 :: x8 :: x9 :: x10 :: x11 :: x12 :: x13 :: x14 :: x15 :: x16 :: x17 :: x18 :: x19 :: x20 :: x21 :: x22 :: some v :: l) H Q) (Q v H) := ⟨z_var23⟩
instance i_z_nm23 {x0 x1 x2 x3 x4 x5 x6 x7 x8 x9 x10 x11 x12 x13 x14 x15 x16 x17 x18 x19 x20 x21 x22 : Option V} {y : Option V} {v : V} {l : L2.St} {Q : L2.St → Hp → Prop} : Stp (gName 23 v (x0 :: x1 :: x2 :: x3 :: x4 :: x5 :: x6 :: x7 :: x8 :: x9 :: x10 :: x11 :: x12 :: x13 :: x14 :: x15 :: x16 :: x17 :: x18 :: x19 :: x20 :: x21 :: x22 :: y :: l) H Q) (Q (x0 :: x1 :: x2 :: x3 :: x4 :: x5 :: x6 :: x7 :: x8 :: x9 :: x10 :: x11 :: x12 :: x13 :: x14 :: x15 :: x16 :: x17 :: x18 :: x19 :: x20 :: x21 :: x22 :: some v :: l) H) := ⟨z_nm23⟩
end
end LX
/-! loops and comprehensions, with their new list and a locked dict looked after -/
namespace LX
open PySem PySem.Spec PyProof.Rows L2
theorem nin {a b : Addr} (h : a ≠ b) : a ∉ [b] := by simpa using h
theorem Fr.lock {H H' : Hp} {d : Addr} {u : HO} {od : Obj} (hd : H d = some u) (f : Fr [] (upd H d (.frz od u)) H') : Fr [] H (upd H' d u) := fun b o e _ => by
  by_cases hb : b = d
  · subst hb; rw [hd] at e; cases e; exact upd_same
  · rw [upd_ne hb]
    exact f.g0 (by rw [upd_ne hb]; exact e)
section
variable {K : PySem.W.Frag} {g : TG} {tt : TT} {te : TE} {vs : List Nat} {σ : L2.St} {H H1 : Hp} {R : Addr}
/-- the state of a comprehension's list R, new since H1: i turns are done -/
def LcI (H1 : Hp) (R : Addr) (Pv : Nat → List V → Hp → Prop) (i : Nat) (H' : Hp) : Prop := ∃ xs, xs.length ≤ i ∧ Pv i xs H' ∧ H' R = some (.lst xs) ∧ Fr [] H1 H'
/-- what is asked behind an element y -/
def LcY (H1 : Hp) (R : Addr) (Pv : Nat → List V → Hp → Prop) (i : Nat) (y : V) (H4 : Hp) : Prop := ∃ acc, H4 R = some (.lst acc) ∧ acc.length < sizeLine ∧ LcI H1 R Pv i (upd H4 R (.lst (acc ++ [y])))
theorem z_lcY {Pv : Nat → List V → Hp → Prop} {i : Nat} {y : V} {xs : List V} (hR : H1 R = none) (h1 : H R = some (.lst xs)) (f : Fr [] H1 H) (hl : xs.length ≤ i) (hs : i < sizeLine) (k : ∀ H5, Fr [R] H H5 → Fr [] H1 H5 → (∀ b, H b = none → H5 b = none) → Pv (i + 1) (xs ++ [y]) H5) : LcY H1 R Pv (i + 1) y H :=
  ⟨xs, h1, by omega, xs ++ [y], by rw [List.length_append]; show xs.length + 1 ≤ i + 1; omega, k _ (Fr.at (by simp)) (f.skip hR) (upd_free h1), upd_same, f.skip hR⟩
theorem z_lcN {Pv : Nat → List V → Hp → Prop} {i : Nat} {xs : List V} (h1 : H R = some (.lst xs)) (f : Fr [] H1 H) (hl : xs.length ≤ i) (k : Pv (i + 1) xs H) : LcI H1 R Pv (i + 1) H := ⟨xs, by omega, k, h1, f⟩
/-- a comprehension over a range -/
theorem z_lcR {lo : Int} {n : Nat} {Q : VK} (Pv : Nat → List V → Hp → Prop) (h0 : ∀ R H', H1 R = none → Fr [] H1 H' → Pv 0 [] H')
    (hs : ∀ R i xs H', H1 R = none → i < n → xs.length ≤ i → Pv i xs H' → H' R = some (.lst xs) → Fr [] H1 H' → g (.int (lo + i)) (wipe σ vs) H' fun σ2 H2 => wipe σ2 vs = wipe σ vs ∧ tt σ2 H2 fun b H3 =>
      if b = true then te σ2 H3 fun y H4 => LcY H1 R Pv (i + 1) y H4 else LcI H1 R Pv (i + 1) H3)
    (hd : ∀ R xs H', H1 R = none → Pv n xs H' → xs.length ≤ n → H' R = some (.lst xs) → Fr [] H1 H' → Q (.ref R) H') :
    oLc (Itr lo n) g tt te vs σ H1 Q := fun R hR =>
  lc_range (fun i H' => LcI H1 R Pv i H') ⟨[], Nat.le_refl _, h0 R _ hR (Fr.new hR), upd_same, Fr.new hR⟩ (fun i H' hi ⟨xs, hl, p, hx, f⟩ => hs R i xs H' hR hi hl p hx f) (fun H' ⟨xs, hl, p, hx, f⟩ => hd R xs H' hR p hl hx f)
/-- a comprehension over a list -/
theorem z_lcL {a : Addr} {src : List V} {Q : VK} (ha : H1 a = some (.lst src)) (Pv : Nat → List V → Hp → Prop) (h0 : ∀ R H', H1 R = none → Fr [] H1 H' → Pv 0 [] H')
    (hs : ∀ R i x xs H', H1 R = none → src[i]? = some x → i < src.length → xs.length ≤ i → Pv i xs H' → H' R = some (.lst xs) → Fr [] H1 H' → g x (wipe σ vs) H' fun σ2 H2 => wipe σ2 vs = wipe σ vs ∧ tt σ2 H2 fun b H3 =>
      if b = true then te σ2 H3 fun y H4 => LcY H1 R Pv (i + 1) y H4 else LcI H1 R Pv (i + 1) H3)
    (hd : ∀ R xs H', H1 R = none → Pv src.length xs H' → xs.length ≤ src.length → H' R = some (.lst xs) → Fr [] H1 H' → Q (.ref R) H') :
    oLc (Itl K a) g tt te vs σ H1 Q := fun R hR =>
  lc_list (xs := src) (fun i H' => LcI H1 R Pv i H') ⟨[], Nat.le_refl _, h0 R _ hR (Fr.new hR), upd_same, Fr.new hR⟩ (fun i H' _ ⟨xs, hl, p, hx, f⟩ => SqL.of (f.g0 ha))
    (fun i x H' hi ⟨xs, hl, p, hx, f⟩ => hs R i x xs H' hR hi (List.getElem?_eq_some_iff.mp hi).1 hl p hx f) (fun H' ⟨xs, hl, p, hx, f⟩ => hd R xs H' hR p hl hx f)
theorem Fr.seq {H H' : Hp} {a : Addr} {xs : List V} (f : Fr [] H H') (h : SqL K H a xs) : SqL K H' a xs := (show L2.Same H H' from fun b u e => f.g0 e).seq h
/-- over a list that may be the script -/
theorem z_lcQ {a : Addr} {src : List V} {Q : VK} (ha : SqL K H1 a src) (Pv : Nat → List V → Hp → Prop) (h0 : ∀ R H', H1 R = none → Fr [] H1 H' → Pv 0 [] H')
    (hs : ∀ R i x xs H', H1 R = none → src[i]? = some x → i < src.length → xs.length ≤ i → Pv i xs H' → H' R = some (.lst xs) → Fr [] H1 H' → g x (wipe σ vs) H' fun σ2 H2 => wipe σ2 vs = wipe σ vs ∧ tt σ2 H2 fun b H3 =>
      if b = true then te σ2 H3 fun y H4 => LcY H1 R Pv (i + 1) y H4 else LcI H1 R Pv (i + 1) H3)
    (hd : ∀ R xs H', H1 R = none → Pv src.length xs H' → xs.length ≤ src.length → H' R = some (.lst xs) → Fr [] H1 H' → Q (.ref R) H') :
    oLc (Itl K a) g tt te vs σ H1 Q := fun R hR =>
  lc_list (xs := src) (fun i H' => LcI H1 R Pv i H') ⟨[], Nat.le_refl _, h0 R _ hR (Fr.new hR), upd_same, Fr.new hR⟩ (fun i H' _ ⟨xs, hl, p, hx, f⟩ => f.seq ha)
    (fun i x H' hi ⟨xs, hl, p, hx, f⟩ => hs R i x xs H' hR hi (List.getElem?_eq_some_iff.mp hi).1 hl p hx f) (fun H' ⟨xs, hl, p, hx, f⟩ => hd R xs H' hR p hl hx f)
theorem z_iterQ {p : Addr} {xs : List V} {R : It → Hp → Prop} (h1 : SqL K H p xs) (h : R (Itl K p) H) : oIter K (.ref p) H R := ⟨p, rfl, ⟨xs, h1⟩, h⟩
/-- over a tuple -/
theorem z_lcT {a : Addr} {src : List V} {Q : VK} (ha : H1 a = some (.tup src)) (Pv : Nat → List V → Hp → Prop) (h0 : ∀ R H', H1 R = none → Fr [] H1 H' → Pv 0 [] H')
    (hs : ∀ R i x xs H', H1 R = none → src[i]? = some x → i < src.length → xs.length ≤ i → Pv i xs H' → H' R = some (.lst xs) → Fr [] H1 H' → g x (wipe σ vs) H' fun σ2 H2 => wipe σ2 vs = wipe σ vs ∧ tt σ2 H2 fun b H3 =>
      if b = true then te σ2 H3 fun y H4 => LcY H1 R Pv (i + 1) y H4 else LcI H1 R Pv (i + 1) H3)
    (hd : ∀ R xs H', H1 R = none → Pv src.length xs H' → xs.length ≤ src.length → H' R = some (.lst xs) → Fr [] H1 H' → Q (.ref R) H') :
    oLc (Itt K a) g tt te vs σ H1 Q := fun R hR =>
  lc_tup (xs := src) (fun i H' => LcI H1 R Pv i H') ⟨[], Nat.le_refl _, h0 R _ hR (Fr.new hR), upd_same, Fr.new hR⟩ (fun i H' _ ⟨xs, hl, p, hx, f⟩ => SqT.of (f.g0 ha))
    (fun i x H' hi ⟨xs, hl, p, hx, f⟩ => hs R i x xs H' hR hi (List.getElem?_eq_some_iff.mp hi).1 hl p hx f) (fun H' ⟨xs, hl, p, hx, f⟩ => hd R xs H' hR p hl hx f)
/-- a comprehension over a dict's keys; the dict is locked meanwhile (HF), and free again behind it -/
theorem z_lcK {td : TE} {d : Addr} {kvs : List (Key × V)} {Q : VK} (htd : ∀ H' (R : VK), R (.ref d) H' → td σ H' R) (hd : H d = some (.dK kvs)) (Pv : Nat → List V → Hp → Prop)
    (h0 : ∀ od HF R H', Fr [d] H HF → HF d = some (.frz od (.dK kvs)) → HF R = none → Fr [] HF H' → Pv 0 [] H')
    (hs : ∀ od HF R i k v xs H', Fr [d] H HF → HF d = some (.frz od (.dK kvs)) → HF R = none → kvs[i]? = some (k, v) → i < kvs.length → xs.length ≤ i → Pv i xs H' → H' R = some (.lst xs) → Fr [] HF H' → g (kV k) (wipe σ vs) H' fun σ2 H2 => wipe σ2 vs = wipe σ vs ∧ tt σ2 H2 fun b H3 =>
      if b = true then te σ2 H3 fun y H4 => LcY HF R Pv (i + 1) y H4 else LcI HF R Pv (i + 1) H3)
    (he : ∀ R xs H' H2, H R = none → Pv kvs.length xs H' → xs.length ≤ kvs.length → H2 R = some (.lst xs) → Fr [d] H' H2 → Fr [] H H2 → Q (.ref R) H2) :
    tLockE (tLc (iKeys td) g tt te vs) σ H Q := by
  refine ⟨d, .dK kvs, hd, trivial, fun od => ?_⟩
  refine htd _ _ ⟨d, od, rfl, Or.inl ⟨kvs, upd_same, fun R hR => ?_⟩⟩
  have hF : upd H d (.frz od (.dK kvs)) d = some (.frz od (.dK kvs)) := upd_same
  have fF : Fr [d] H (upd H d (.frz od (.dK kvs))) := Fr.at (by simp)
  have nR : R ≠ d := fun z => by rw [z, upd_same] at hR; cases hR
  have hR0 : H R = none := by rw [upd_ne nR] at hR; exact hR
  have lk : ∀ H', Fr [] (upd H d (.frz od (.dK kvs))) H' → Fr [] H (upd H' d (.dK kvs)) := fun H' f => Fr.lock hd f
  generalize upd H d (.frz od (.dK kvs)) = HF at hF fF hR lk
  refine ⟨fun i m H' => m = kvs.length - i ∧ i ≤ kvs.length ∧ LcI HF R Pv i H', ⟨kvs.length, by simp, Nat.zero_le _, [], Nat.le_refl _, h0 od HF R _ fF hF hR (Fr.new hR), upd_same, Fr.new hR⟩, ?_⟩
  rintro i m H' ⟨rfl, hi, xs, hl, p, hx, f⟩
  by_cases hlt : i < kvs.length
  · refine .inr ⟨⟨f.g0 hF, hlt⟩, fun H' => LcI HF R Pv (i + 1) H', fun H'' p' => ⟨kvs.length - (i + 1), by omega, rfl, hlt, p'⟩, fun x H'' y => ?_⟩
    obtain ⟨e, k, v, hk, ex⟩ := y
    subst e ex
    exact hs od HF R i k v xs _ fF hF hR hk hlt hl p hx f
  · have e : i = kvs.length := by omega
    subst e
    exact .inl ⟨⟨f.g0 hF, Nat.le_refl _⟩, f.g0 hF, he R xs H' _ hR0 p hl (by rw [upd_ne nR]; exact hx) (Fr.at (by simp)) (lk _ f)⟩
/-- a dict locked: HF is H with it locked -/
structure Lk (H : Hp) (d : Addr) (kvs : List (Key × V)) (od : Obj) (HF : Hp) : Prop where
  f : Fr [d] H HF
  at' : HF d = some (.frz od (.dK kvs))
  lk : ∀ F H', d ∉ F → Fr F HF H' → Fr F H (upd H' d (.dK kvs))
theorem Fr.lockF {F : List Addr} {H H' : Hp} {d : Addr} {u : HO} {od : Obj} (hd : H d = some u) (f : Fr F (upd H d (.frz od u)) H') : Fr F H (upd H' d u) := fun b o e n => by
  by_cases hb : b = d
  · subst hb; rw [hd] at e; cases e; exact upd_same
  · rw [upd_ne hb]
    exact f b o (by rw [upd_ne hb]; exact e) n
def FkN (HF : Hp) (F : List Addr) (Pv : Nat → L2.St → Hp → Prop) (i : Nat) (σ : L2.St) (H : Hp) : Prop := Pv i σ H ∧ Fr F HF H
def FkR (d : Addr) (kvs : List (Key × V)) (od : Obj) (R : Hp → Prop) (H : Hp) : Prop := H d = some (.frz od (.dK kvs)) ∧ R (upd H d (.dK kvs))
theorem z_fkR {H HF H3 : Hp} {F : List Addr} {d : Addr} {kvs : List (Key × V)} {od : Obj} {R : Hp → Prop} (L : Lk H d kvs od HF) (hF : d ∉ F) (f : Fr F HF H3) (k : ∀ H4, Fr [d] H3 H4 → Fr F H H4 → R H4) : FkR d kvs od R H3 := ⟨f.g L.at' hF, k _ (Fr.at (by simp)) (L.lk F _ hF f)⟩
theorem z_fkN {HF : Hp} {F : List Addr} {Pv : Nat → L2.St → Hp → Prop} {i : Nat} {σ : L2.St} {H : Hp} (f : Fr F HF H) (k : Pv i σ H) : FkN HF F Pv i σ H := ⟨k, f⟩
/-- a for over a dict's keys; the dict is locked meanwhile; the body may change what F names -/
theorem z_forK {D : Ends} {td : TE} {tb : TS} {d : Addr} {kvs : List (Key × V)} (F : List Addr) (hF : d ∉ F) (htd : ∀ H' (R : VK), R (.ref d) H' → td σ H' R) (hd : H d = some (.dK kvs)) (Pv : Nat → L2.St → Hp → Prop)
    (h0 : ∀ od HF, Lk H d kvs od HF → Pv 0 σ HF)
    (hs : ∀ od HF i k v σ' H', Lk H d kvs od HF → kvs[i]? = some (k, v) → i < kvs.length → Pv i σ' H' → Fr F HF H' → H' d = some (.frz od (.dK kvs)) → g (kV k) σ' H' fun σ2 H2 => tb ⟨FkN HF F Pv (i + 1), fun v H3 => FkR d kvs od (D.rt v) H3, fun σ3 H3 => FkR d kvs od (D.nx σ3) H3, FkN HF F Pv (i + 1)⟩ σ2 H2)
    (he : ∀ σ' H' H2, Pv kvs.length σ' H' → Fr [d] H' H2 → H2 d = some (.dK kvs) → Fr F H H2 → D.nx σ' H2) :
    tLock (tFor (iKeys td) g tb) D σ H := by
  refine ⟨d, .dK kvs, hd, trivial, fun od => ?_⟩
  refine htd _ _ ⟨d, od, rfl, Or.inl ⟨kvs, upd_same, ?_⟩⟩
  have L : Lk H d kvs od (upd H d (.frz od (.dK kvs))) := ⟨Fr.at (by simp), upd_same, fun F H' _ f => Fr.lockF hd f⟩
  generalize upd H d (.frz od (.dK kvs)) = HF at L
  refine ⟨fun i m σ' H' => m = kvs.length - i ∧ i ≤ kvs.length ∧ FkN HF F Pv i σ' H', ⟨kvs.length, by simp, Nat.zero_le _, h0 od HF L, Fr.rfl'⟩, ?_⟩
  rintro i m σ' H' ⟨rfl, hi, p, f⟩
  by_cases hlt : i < kvs.length
  · refine .inr ⟨⟨f.g L.at' hF, hlt⟩, FkN HF F Pv (i + 1), fun σ'' H'' p' => ⟨kvs.length - (i + 1), by omega, rfl, hlt, p'⟩, fun x H'' y => ?_⟩
    obtain ⟨e, k, v, hk, ex⟩ := y
    subst e ex
    exact hs od HF i k v σ' _ L hk hlt p f (f.g L.at' hF)
  · have e : i = kvs.length := by omega
    subst e
    exact .inl ⟨⟨f.g L.at' hF, Nat.le_refl _⟩, f.g L.at' hF, he σ' H' _ p (Fr.at (by simp)) upd_same (L.lk F _ hF f)⟩
end
end LX
/-! more rules: chains, tuples, sorted of tuples -/
namespace LX
open PySem PySem.Spec PyProof.Rows L2
section
variable {K : PySem.W.Frag} {σ : L2.St} {H : Hp} {D : Ends} {Q : VK}
theorem z_chain {r r' : R2} {ta tb tc : TE} (h : ta σ H fun x H1 => tb σ H1 fun y H2 => r x y H2 fun z H3 => oBl z H3 fun k H3 => if k = true then tc σ H3 fun u H4 => r' y u H4 Q else Q (.bl false) H3) : tChain r r' ta tb tc σ H Q := h
instance i_chain {r r' : R2} {ta tb tc : TE} : Stp (tChain r r' ta tb tc σ H Q) (ta σ H fun x H1 => tb σ H1 fun y H2 => r x y H2 fun z H3 => oBl z H3 fun k H3 => if k = true then tc σ H3 fun u H4 => r' y u H4 Q else Q (.bl false) H3) := ⟨z_chain⟩
theorem z_addT {a b : Addr} {xs ys : List V} (h1 : H a = some (.tup xs)) (h2 : H b = some (.tup ys)) (h3 : xs.length + ys.length ≤ sizeLine) (n1 : xs ≠ []) (n2 : ys ≠ []) (h : ∀ p H1, H p = none → Fr [] H H1 → H1 p = some (.tup (xs ++ ys)) → Q (.ref p) H1) : rAddU K (.ref a) (.ref b) H Q :=
  Or.inr ⟨a, b, xs, ys, rfl, rfl, SqT.of h1, SqT.of h2, h3, fun e => absurd e n1, fun _ e => absurd e n2, fun _ _ => z_new h⟩
def rTupU (K : PySem.W.Frag) : List V → Hp → VK → Prop := fun xs H Q => ∃ p ys, xs = [.ref p] ∧ ((SqL K H p ys ∧ ∀ l, H l = none → Q (.ref l) (upd H l (.tup ys))) ∨ (SqT K H p ys ∧ Q (.ref p) H))
theorem call_tupleU {X : Cx} : CallR X (.type "tuple") (rTupU X.K) := call_tuple_of
theorem z_tupL {p : Addr} {ys : List V} (h1 : H p = some (.lst ys)) (h : ∀ l H1, H l = none → Fr [] H H1 → H1 l = some (.tup ys) → Q (.ref l) H1) : rTupU K [.ref p] H Q := ⟨p, ys, rfl, Or.inl ⟨SqL.of h1, z_new h⟩⟩
theorem z_tupT {p : Addr} {ys : List V} (h1 : H p = some (.tup ys)) (h : Q (.ref p) H) : rTupU K [.ref p] H Q := ⟨p, ys, rfl, Or.inr ⟨SqT.of h1, h⟩⟩
/-- sorted of a list of tuples, as data -/
def rSortT (K : PySem.W.Frag) : List V → Hp → VK → Prop := fun vs H Q => ∃ (a : Addr) (bs : List (Addr × PyData)), vs = [.ref a] ∧ SqL K H a (bs.map fun b => V.ref b.1) ∧ (∀ b ∈ bs, Dp K H (.ref b.1) b.2) ∧ (∀ b ∈ bs, ∀ b' ∈ bs, PySem.W.alike b.2 b'.2 = true) ∧ (∀ b ∈ bs, ∃ x r, b.2 = .tuple (x :: r)) ∧ bs.length ≤ sizeLine ∧ (∀ b ∈ bs, b.2.depth ≤ 60) ∧
  ∀ p, H p = none → Q (.ref p) (upd H p (.lst ((bs.mergeSort (PySem.W.dataLe false (fun b : Addr × PyData => b.2))).map fun b => V.ref b.1)))
theorem each_refs : ∀ {bs : List (Addr × PyData)} {its : List Value}, Vals (bs.map fun b => V.ref b.1) its → PySem.W.EachIs (fun v (b : Addr × PyData) => v = .ref b.1) its bs
  | [], _, r => by cases r; exact .nil
  | b :: bs, _, r => by
    cases r with
    | cons h t => exact .cons h (each_refs t)
theorem refs_each : ∀ {bs : List (Addr × PyData)} {its : List Value}, PySem.W.EachIs (fun v (b : Addr × PyData) => v = .ref b.1) its bs → Vals (bs.map fun b => V.ref b.1) its
  | _, _, .nil => .nil
  | _, _, .cons h t => .cons h (refs_each t)
theorem call_sortedT {X : Cx} (hu : X.A.units + 64 < cLine) : CallR X (.builtin "sorted") (rSortT X.K) := by
  intro pins s σ H vs us Q I r h
  obtain ⟨a, bs, rfl, hs, hd, hal, htp, hl, hdep, q⟩ := h
  obtain ⟨its, rv, pl, _⟩ := I.list hs
  rw [Vals.ref1 r]
  have e1 := each_refs rv
  have er : PySem.W.EachIs (fun v (b : Addr × PyData) => ∃ as, Reads s.heap v b.2 as) its bs := PySem.W.EachIs.of_zip e1.length fun p hp => by
    have hm := (List.of_mem_zip hp).2
    have hv := e1.zip p hp
    exact Dp.reads I _ _ _ (hd _ hm) hv
  refine PySem.W.sorted_data (enc := fun b : Addr × PyData => b.2) (by simpa using pl.isList) e1 er (fun d h d' h' => ?_) (.inl fun d h => ?_) hl (fun b hb => by have := hdep b hb; omega) fun out ho eo => ?_
  · obtain ⟨b, hb, rfl⟩ := List.mem_map.mp h
    obtain ⟨b', hb', rfl⟩ := List.mem_map.mp h'
    exact hal b hb b' hb'
  · obtain ⟨b, hb, rfl⟩ := List.mem_map.mp h
    exact htp b hb
  obtain ⟨ep, he'⟩ := PyProof.Rows.sortedAll_at s.heap its out.toArray
  have hlen : ((bs.mergeSort (PySem.W.dataLe false (fun b : Addr × PyData => b.2))).map fun b => V.ref b.1).length ≤ sizeLine := by rw [List.length_map, List.length_mergeSort]; exact hl
  exact ⟨.ref _, upd H (s.heap.objs.size + 1) (.lst ((bs.mergeSort (PySem.W.dataLe false (fun b : Addr × PyData => b.2))).map fun b => V.ref b.1)), I.laid (t' := s.toks) (fun _ _ => PyProof.Rows.sortedAll_old) (Nat.le_succ _) ⟨hlen, out, ep, refs_each eo, he'⟩, rfl, q _ (I.hok.fresh (Nat.le_succ _))⟩
/-- .. already in order -/
theorem z_sortT {a : Addr} {bs : List (Addr × PyData)} (h1 : H a = some (.lst (bs.map fun b => V.ref b.1))) (h2 : ∀ b ∈ bs, Dp K H (.ref b.1) b.2) (h3 : ∀ b ∈ bs, ∀ b' ∈ bs, PySem.W.alike b.2 b'.2 = true) (h4 : ∀ b ∈ bs, ∃ x r, b.2 = .tuple (x :: r)) (h5 : bs.length ≤ sizeLine) (h6 : ∀ b ∈ bs, b.2.depth ≤ 60)
    (h7 : bs.Pairwise fun x y => PySem.W.dataLe false (fun b : Addr × PyData => b.2) x y = true) (h : ∀ p H1, H p = none → Fr [] H H1 → H1 p = some (.lst (bs.map fun b => V.ref b.1)) → Q (.ref p) H1) : rSortT K [.ref a] H Q :=
  ⟨a, bs, rfl, SqL.of h1, h2, h3, h4, h5, h6, by rw [List.mergeSort_of_pairwise h7]; exact fun p hp => h p _ hp (Fr.new hp) upd_same⟩
end
end LX
/-! own exceptions over ValueError whose __init__ begins with super().__init__(..) -/
namespace LX
open PySem PySem.Spec PyProof.Rows L2 NdefX PySem.W PySem.HandSPX

/-- what the written part says of the class at C and of its __init__ at f -/
structure SupTxt (P : Program) (K : Frag) (mg : Str → Option Value) (C : Addr) (cda cc : Addr) (scope : Scope) : Prop where
  ox : OexC K C
  code : ∃ (ccl : Value) (cdd : Option Addr) (vs : Array Value) (ccs : Array (Option Value)) (file : Str) (tf : Tok), K.lookup cda = some ⟨ccl, cdd, .fields vs, ccs⟩ ∧ vs[2]? = some (.str file tf) ∧ ((P.main.file : Str) == file) = true
  cell : ∃ (cl : Value) (cld : Option Addr) (csl : Array (Option Value)), K.lookup cc = some ⟨cl, cld, .cell (some (.ref C)), csl⟩
  cls : ∃ cdC, clsIn K C = some cdC
  sub : mroIn K C (.ref C) = some true
  init : ks_superIn K C C "__init__" = some (some (.builtin "ValueError.__init__"))
  isB : subIn K (.ref C) (.type "ValueError") = some true
  third : nsIn K cStatics "thirdparty.any" = some none
  mgS : mg "super" = none
  hks : scope.names.lookup ("super" : Str) = some .globalImplicit
  hkc : scope.names.lookup ("__class__" : Str) = some .free
  htop : (P.main.scope.names.lookup ("super" : Str)).isSome = false

section
variable {prog : Program} {w : World} {M : Model} {A : Around} {E : Value → Shared → Prop} {s : Shared} {i : String} {x u : Addr}
theorem mw_callWith {pos : Pos} {first : List Value} {args : List (Bool × Sem Value)} {Q : Value → Shared → Prop} (hplain : args.any (·.1) = false)
    (h : wpAny M A (evalArgs (.ref u) true args []) (fun ar s₁ => s₁.heap.get? u = some (kxs_mw i x) ∧ wpAny M A (call (.ref u) (first ++ ar.pos) ar.kw) Q E s₁) E s) : wpAny M A (callWith pos (.ref u) first args []) Q E s :=
  kxs_callWith (i := i) (x := x) hplain h
theorem mw_call {t0 C : Addr} {rest : List Value} {nm q : Str} {N : Addr} {bs bm : List Value} {hdct : Bool} {sn : List Str} {sub : List Value} {ab : Bool} {col : Option Bool} {dd : Option Addr} {k0 k1 k2 k3 k5 : Option Value} {h : Heap} {g : Array GenState} {d : Drawn} {t : Nat} {os : OsState} {Q : Value → Shared → Prop}
    (hC : h.get? C = some (excClassObj nm q C N bs bm hdct sn sub ab col dd k0 k1 k2 k3 k5 "ValueError.__new__")) (he : h.get? x = some (excO C t0)) (hu : h.get? u = some (kxs_mw "ValueError.__init__" x)) (hrest : rest.length ≤ sizeLine)
    (hq : ∀ h' t1, (∀ b o, b ≠ x → h.get? b = some o → h'.get? b = some o) → h'.get? x = some (excO C t1) → Q .none ⟨h', g, d, t, os⟩) :
    wpAny (model prog w) A (call (.ref u) rest) Q E ⟨h, g, d, t, os⟩ := by
  refine wpAny_call (codeAny_of_tree ?_)
  show wpAny _ A.in1 (callAny (.ref u) ⟨rest, []⟩) _ _ _
  simp only [callAny]
  refine wpAny_bind (wpAny_load hu ?_)
  simp only [kxs_mw, show (Value.type "method-wrapper" == Value.type "method" || Value.type "method-wrapper" == Value.type "builtin_function_or_method" || Value.type "method-wrapper" == Value.type "method-wrapper") = true by decide, if_true]
  refine KFB.if_so (by decide) ?_
  refine wpAny_bind (check_bound_init F.excBase_ValueError.toExcCallFacts hC he rfl ?_)
  refine wpAny_bind (wpAny_pure (wpAny_pure ?_))
  refine ⟨plainId_quiet F.excBase_ValueError.init.plain _, codeAny_builtin F.excBase_ValueError.initEntry ?_⟩
  rw [Around.under_plainId F.excBase_ValueError.init.plain _]
  wp_walk
  refine hq _ h.objs.size (fun b o hb ho => ?_) ?_
  · rw [Heap.get?_update_other _ _ (Ne.symm hb)]
    exact Heap.get?_push_of_some _ ho
  · rw [Heap.get?_update_self _ (Heap.get?_push_of_some _ he) rfl]
    rfl
end

/-- the reading of super().__init__(e, ..) as the first statement of C's own __init__, self in slot 0 -/
def tSup (C : Addr) (ta : TA) : TS := fun D σ H => ∃ a : Addr, σ[0]? = some (some (.ref a)) ∧ H a = some (exo a C none) ∧ ta σ H fun vs H1 => vs.length ≤ sizeLine ∧ H1 a = some (exo a C none) ∧ D.nx σ H1

section
variable {P : Program} {w : World} {K : PySem.W.Frag} {mg : Str → Option Value} {base : Heap}
theorem fn_sup {CX : CXT} {k : Nat} {f : Addr} {name qual : Str} {params : Arguments} {scope : Scope} {dV kV doc pm ct oc : Value} {cda cc C : Addr} {an od : Option Addr} {osl : Array (Option Value)} {N ps : List Str} {sp : Sp}
    {p0 p1 p2 p3 p4 : Pos} {e : Expr} {es : List Expr} {rest : List Stmt} {ar : Arg}
    (lk : K.lookup f = some ⟨oc, od, .func (PySem.W.fnX name qual params (.Expr (.Call (.Attribute (.Call (.Name "super" p0) [] [] p1) "__init__" p2) (e :: es) [] p3) p4 :: rest) scope [("__class__", cc)] dV kV doc pm an (.ref cda) ct), osl⟩)
    (hcd : PySem.W.codeIn K (.ref cda) qual = true) (S : NScope N ps ["__class__"] scope) (T : SupTxt P K mg C cda cc scope) (hp : (params.posonlyargs ++ params.args).head? = some ar) (hp0 : ps[0]? = some ar.arg)
    {pl : Env → Sem Bool}
    (hev : ∀ L, eval (.Call (.Attribute (.Call (.Name "super" p0) [] [] p1) "__init__" p2) (e :: es) [] p3) (envX qual scope L f (.ref cda) [("__class__", cc)]) = (do
      let ov ← attributeBase (.Call (.Name "super" p0) [] [] p1) "__init__" (envX qual scope L f (.ref cda) [("__class__", cc)]) (eval (.Call (.Name "super" p0) [] [] p1) (envX qual scope L f (.ref cda) [("__class__", cc)]))
      standAt p2.atName
      let (f', first) ← holding [ov] (getMethod ov "__init__" (pl (envX qual scope L f (.ref cda) [("__class__", cc)])))
      callWith p3 f' first (backTo p3 (starEach (e :: es) (envX qual scope L f (.ref cda) [("__class__", cc)]))) []))
    (hst : ∀ env, starEach (e :: es) env = (false, eval e env) :: starEach es env) (hplain : ∀ env, (backTo p3 (starEach es env)).any (·.1) = false)
    (hint : ∀ L, interactive (envX qual scope L f (.ref cda) [("__class__", cc)]) = false) (hsw : ∀ L, swapsWith (.Call (.Attribute (.Call (.Name "super" p0) [] [] p1) "__init__" p2) (e :: es) [] p3) none p4.line (envX qual scope L f (.ref cda) [("__class__", cc)]) = pure false)
    (len : ∀ vs H Q E, sp vs H Q E → vs.length = ps.length)
    (hbody : ∀ (A : Around) (outer : List Env) (s : Shared) (H : Hp) (vs : List V) (Q : VK) (E : XK), Room k (A.deeper (envX qual scope s.heap.objs.size f (.ref cda) [("__class__", cc)])) → sp vs H Q E →
      ∃ ta t, PA (ncx CX P w K mg base N ⟨name, qual, params, .Expr (.Call (.Attribute (.Call (.Name "super" p0) [] [] p1) "__init__" p2) (e :: es) [] p3) p4 :: rest, scope, [("__class__", cc)], cda⟩ f A outer s H E) (e :: es) ta ∧
        PSs (ncx CX P w K mg base N ⟨name, qual, params, .Expr (.Call (.Attribute (.Call (.Name "super" p0) [] [] p1) "__init__" p2) (e :: es) [] p3) p4 :: rest, scope, [("__class__", cc)], cda⟩ f A outer s H E) rest t ∧
        tSeq (tSup C ta) t { nx := fun _ H' => Q .non H', rt := Q } (startF N vs [some (.ref C)]) H) :
    FnOk P w K mg base CX (k + 1) f (PySem.W.fnX name qual params (.Expr (.Call (.Attribute (.Call (.Name "super" p0) [] [] p1) "__init__" p2) (e :: es) [] p3) p4 :: rest) scope [("__class__", cc)] dV kV doc pm an (.ref cda) ct) ps sp := by
  refine ⟨len, fun A outer s H args us vs Q E hr e0 hb r hsp => ?_⟩
  have hl := len _ _ _ _ hsp
  have KX : K.In s.heap := e0.mod.kin.keeps fun b o e => (e0.bs b o e).1
  have lim : s.heap.NoLimit := e0.mod.nolimit.keeps fun b o e => (e0.bs b o e).1
  obtain ⟨cl, cld, csl, hcell⟩ := T.cell
  have CA : CellsAt [(("__class__" : Str), cc)] ["__class__"] [some (.ref C)] s.heap H := by
    have hcc : s.heap.get? cc = some ⟨cl, cld, .cell (some (.ref C)), csl⟩ := KX _ _ hcell
    have hn : H cc = none := (e0.bs cc _ (e0.mod.kin _ _ hcell)).2
    refine ⟨rfl, fun y c h => ?_, fun y z c h1 h2 => ?_, fun j y h => ?_⟩
    · have : y = "__class__" ∧ c = cc := by
        simp only [List.lookup] at h
        split at h
        · rename_i q
          exact ⟨by simpa using q, (Option.some.inj h).symm⟩
        · cases h
      obtain ⟨rfl, rfl⟩ := this
      exact ⟨hn, _, _, hcc, rfl⟩
    · have key : ∀ {y : Str}, List.lookup y [(("__class__" : Str), cc)] = some c → y = "__class__" := fun {y} h => by
        simp only [List.lookup] at h
        split at h
        · rename_i q
          simpa using q
        · cases h
      rw [key h1, key h2]
    · cases j with
      | zero =>
        have : y = "__class__" := (Option.some.inj h).symm
        subst this
        refine ⟨cc, by simp [List.lookup], fun v hv => ?_⟩
        have : v = .ref C := by simpa using hv.symm
        subst this
        exact ⟨.ref C, rfl, _, hcc, rfl⟩
      | succ j => simp at h
  refine ks_codeAny_call_defAt (binds := ps.zip us) hr.depth (KX _ _ lk) rfl lim (codeRec_of KX hcd) rfl hb S.nocell (fun x hx => S.par x.1 (List.of_mem_zip hx).1) (fun h₁ hns kp => ?_) S.co S.gen S.kind
  obtain ⟨ta, t, hta, ht, hq⟩ := hbody A outer s H vs Q E (hr.deeper _) hsp
  obtain ⟨a, hσ, hea, hq⟩ := hq
  have I : Inv (ncx CX P w K mg base N ⟨name, qual, params, .Expr (.Call (.Attribute (.Call (.Name "super" p0) [] [] p1) "__init__" p2) (e :: es) [] p3) p4 :: rest, scope, [("__class__", cc)], cda⟩ f A outer s H E) [] (startF N vs [some (.ref C)]) H { s with heap := h₁, toks := s.toks + (ps.zip us).length } :=
    inv_startN (F := ⟨name, qual, params, .Expr (.Call (.Attribute (.Call (.Name "super" p0) [] [] p1) "__init__" p2) (e :: es) [] p3) p4 :: rest, scope, [("__class__", cc)], cda⟩) S hr.hd e0 hl r CA hns kp
  generalize hX : ncx CX P w K mg base N ⟨name, qual, params, .Expr (.Call (.Attribute (.Call (.Name "super" p0) [] [] p1) "__init__" p2) (e :: es) [] p3) p4 :: rest, scope, [("__class__", cc)], cda⟩ f A outer s H E = X at hta ht I
  have eK : X.K = K := by rw [← hX]; rfl
  have eP : X.prog = P := by rw [← hX]; rfl
  have ew : X.w = w := by rw [← hX]; rfl
  have emg : X.mg = mg := by rw [← hX]; rfl
  have eN : X.N = N := by rw [← hX]; rfl
  have eenv : X.env = envX qual scope s.heap.objs.size f (.ref cda) [("__class__", cc)] := by rw [← hX]; rfl
  have eA : X.A = A.deeper X.env := by rw [← hX]; rfl
  have exe : X.xe = fun e s' => wpAny (model P w) (A.deeper (envX qual scope s.heap.objs.size f (.ref cda) [("__class__", cc)])) (leaving (envX qual scope s.heap.objs.size f (.ref cda) [("__class__", cc)]) e) (fun _ s'' => CX outer H s E e s'') (fun e' s'' => CX outer H s E e' s'') s' := by rw [← hX]; rfl
  have fin : ∀ {s' : Shared} {σ' : L2.St} {H' : Hp} {v : V} {u : Value}, Inv X [] σ' H' s' → L2.RelV v u → Q v H' → CE outer P w H s Q u s' :=
    fun {s' σ' H' v u} J rv q => by
      subst hX
      exact ⟨v, H', J.os, J.bare, J.base, J.hok, rv, q⟩
  show PySem.wpAt (model P w) (A.deeper (envX qual scope s.heap.objs.size f (.ref cda) [("__class__", cc)])) (.func (.Expr (.Call (.Attribute (.Call (.Name "super" p0) [] [] p1) "__init__" p2) (e :: es) [] p3) p4 :: rest) (envX qual scope s.heap.objs.size f (.ref cda) [("__class__", cc)]))
    (execs (.Expr (.Call (.Attribute (.Call (.Name "super" p0) [] [] p1) "__init__" p2) (e :: es) [] p3) p4 :: rest) (envX qual scope s.heap.objs.size f (.ref cda) [("__class__", cc)])) _ _ _
  rw [← eenv, ← eA]
  have eM : model P w = model X.prog X.w := by rw [eP, ew]
  rw [eM]
  refine ks_wpAt_mono (Q := SP X [] { nx := fun _ H' => Q .non H', rt := Q }) (E := X.xe) ?_ (fun fl s' hs => ?_) (fun e s' hs => ?_)
  · refine ks_wpAt_execs_cons (ks_wpAt_Expr_any (ks_wpAt_MethodCall ?_ (by rw [eenv]; exact hev _)) (by rw [eenv]; exact hint _) (by rw [eenv]; exact hsw _))
    -- super()
    obtain ⟨ccl, cdd, cvs, ccs, file, tf, hcode, hvs, hfile⟩ := T.code
    obtain ⟨cdC, hcl⟩ := T.cls
    obtain ⟨t1, ho⟩ := exo_at I.hok hea
    have XK : K.In h₁ := by have := I.kIn; rw [eK] at this; exact this
    obtain ⟨oD, hD1, hD2⟩ : ∃ oD, h₁.get? C = some oD ∧ oD.data = .cls cdC := by
      unfold clsIn at hcl
      split at hcl
      · rename_i c d cd' sl ho
        cases hcl
        exact ⟨_, XK _ _ ho, rfl⟩
      · cases hcl
    have hN0 : X.N[0]? = some ar.arg := by
      rw [eN]
      have z := congrArg (fun l => l[0]?) S.pre
      rw [List.getElem?_take_of_lt (by simp)] at z
      rw [z, List.getElem?_append_left (by obtain ⟨h0, _⟩ := List.getElem?_eq_some_iff.mp hp0; exact h0), hp0]
    have harl : scope.names.lookup ar.arg = some .local := S.par _ (List.mem_of_getElem? hp0)
    obtain ⟨m, hn, hlk⟩ := I.loc
    obtain ⟨u0, ru0, lo0⟩ := hlk 0 ar.arg (.ref a) hN0 hσ (by rw [eenv]; exact Or.inl harl)
    obtain rfl : u0 = Value.ref a := ru0
    have hm0 : m ar.arg = some (.ref a) := by
      rcases lo0 with ⟨_, z⟩ | ⟨z, _⟩
      · exact z
      · exfalso
        have z' : scope.names.lookup ar.arg = some .cell ∨ scope.names.lookup ar.arg = some .free := by rw [eenv] at z; exact z
        rw [harl] at z'
        rcases z' with z' | z' <;> cases z'
    have hkind : X.env.scope.kind = .function := I.ok.kind
    have hks : X.env.kindOf "super" = some .globalImplicit := by rw [eenv]; exact T.hks
    have hkc : X.env.kindOf "__class__" = some .free := by rw [eenv]; exact T.hkc
    have hka : X.env.kindOf ar.arg = some .local := by rw [eenv]; exact harl
    refine ks_wpAt_super_base (of := ⟨oc, od, .func (PySem.W.fnX name qual params (.Expr (.Call (.Attribute (.Call (.Name "super" p0) [] [] p1) "__init__" p2) (e :: es) [] p3) p4 :: rest) scope [("__class__", cc)] dV kV doc pm an (.ref cda) ct), osl⟩) (f := f) (cc := cda) hks hkc (by decide) (by rw [eenv]) (XK _ _ lk) rfl hp (by rw [eenv]) (XK _ _ hcode) rfl hvs (by rw [eP]; exact hfile) (by rw [eP]; exact T.htop) ?_
    obtain ⟨mb, hmb1, hmb2⟩ := I.mod.blt
    refine ks_loadName_global hkind hks (Calls.loadGlobal_builtin (by rw [I.ok.glob]; exact I.mod.glob.keeps I.bk) (by rw [emg]; exact T.mgS) (by rw [I.ok.blt]; exact hmb1.keeps I.bk) ((hmb2 _ (by decide)).trans PyProof.Rows.Boot.super) ⟨rfl, ?_⟩)
    refine wpAny_loadName_free (c := cc) hkind hkc (by rw [eenv]; simp [List.lookup]) ⟨_, XK _ _ hcell, rfl⟩ ?_
    refine wpAny_loadName_local hkind hka hn hm0 ?_
    refine ks_wpAny_isType_cls hD1 hD2 ⟨rfl, ?_⟩
    refine ks_wpAny_call_super (C := C) hD1 hD2 ho rfl (fun c z => by cases z) (looks_mroIn XK T.sub) (fun h2 e2 k2 => ?_)
    have I2 : Inv X [] (startF N vs [some (.ref C)]) H { s with heap := h2, toks := s.toks + (ps.zip us).length } := I.kept (t' := s.toks + (ps.zip us).length) k2
    have XK2 : K.In h2 := XK.keeps k2
    have hx2 := k2 _ _ ho
    have II : PySem.W.InstAt h2 a ({ cls := .ref C, dict := none, data := .fields #[.ref t1, .none, .none, .none, .bool false, .none] } : Obj) C none := ⟨hx2, rfl, rfl, trivial⟩
    have hsup := T.init
    unfold ks_superIn at hsup
    rw [hcl] at hsup
    refine kxs_getMethod kxs_ValueError e2 (looks_opaque XK2 T.third) (l₀ := cdC.mro) (fun A Q E s k q => wpAny_bind ((looks_clsIn XK2 hcl) A _ E s k (wpAny_pure q))) rfl XK2 hsup (II.type.andThen (looks_subIn XK2 T.isB)) (ks_ne XK2 II hcl) (by decide) ?_
    -- the wrapper stands, pinned
    have k3 : ∀ b o, h2.get? b = some o → (h2.push (kxs_mw "ValueError.__init__" a)).get? b = some o := fun b o q => Heap.get?_push_of_some _ q
    have I3 : Inv X [] (startF N vs [some (.ref C)]) H { s with heap := h2.push (kxs_mw "ValueError.__init__" a), toks := s.toks + (ps.zip us).length + 1 } := I2.kept (t' := s.toks + (ps.zip us).length + 1) k3
    have hmw : (h2.push (kxs_mw "ValueError.__init__" a)).get? h2.objs.size = some (kxs_mw "ValueError.__init__" a) := Heap.get?_push_at rfl rfl
    have I4 : Inv X [(h2.objs.size, kxs_mw "ValueError.__init__" a)] (startF N vs [some (.ref C)]) H { s with heap := h2.push (kxs_mw "ValueError.__init__" a), toks := s.toks + (ps.zip us).length + 1 } := by
      refine I3.pins_of fun p hp => ?_
      obtain rfl : p = (h2.objs.size, kxs_mw "ValueError.__init__" a) := by simpa using hp
      exact ⟨hmw, I2.hok.fresh (Nat.le_refl _), Nat.ne_of_gt I2.lt, I2.nofs (Nat.le_refl _), fun v z => by cases z⟩
    have hargs := hta.run p3 _ _ _ _ _ I4 hq
    have hst' := hst X.env
    rw [hst'] at hargs ⊢
    refine kxs_callWith (i := "ValueError.__init__") (x := a) (by show (false || (backTo p3 (starEach es X.env)).any (·.1)) = false; rw [hplain]; rfl) (PySem.Calls.evalArgs_plain (thn hargs fun us2 s2 hh => ?_))
    obtain ⟨vs2, H2, J, rv2, hlen2, hea2, hnx⟩ := hh
    obtain ⟨hu2, _⟩ := J.pin (h2.objs.size, kxs_mw "ValueError.__init__" a) (List.mem_append_right _ (by simp))
    refine ⟨hu2, ?_⟩
    obtain ⟨nm, q, N', bs, bm, sn, sub, ab, col, dd, k0, k1, k2', k3', k5, hC, hbm⟩ := T.ox.cls
    obtain ⟨t3, ho3⟩ := exo_at J.hok hea2
    have XK4 : K.In s2.heap := by have := J.kIn; rw [eK] at this; exact this
    obtain ⟨hp4, g4, d4, tk4, os4⟩ := s2
    refine mw_call (XK4 _ _ hC) ho3 hu2 (by show us2.length ≤ sizeLine; rw [← rv2.length]; exact hlen2) fun h5 t5 k5 hx5 => ?_
    have J5 := J.write (t' := tk4) (x := a) (e := a) (o := exo a C none) (by rw [hea2]; exact True.intro) (.inl rfl) k5 ⟨_, hx5⟩ (exo_ok hx5)
    have eu : upd H2 a (exo a C none) = H2 := by
      funext b
      by_cases hb : b = a
      · rw [hb, upd_same, hea2]
      · rw [upd_ne hb]
    rw [eu] at J5
    have J6 : Inv X [] (startF N vs [some (.ref C)]) H2 { heap := h5, gens := g4, drawn := d4, toks := tk4, os := os4 } := J5.pins_of fun p hp => by cases hp
    exact wpAt_of_wpAny (ht.run [] _ _ _ _ J6 hnx)
  · cases fl with
    | ret u =>
      obtain ⟨v, σ', H', J, rv, q⟩ := hs
      exact fin J rv q
    | next =>
      obtain ⟨σ', H', J, q⟩ := hs
      exact fin (v := V.non) (u := Value.none) J rfl q
    | brk =>
      obtain ⟨_, _, _, q⟩ := hs
      exact False.elim q
    | cont =>
      obtain ⟨_, _, _, q⟩ := hs
      exact False.elim q
  · rw [exe] at hs
    rw [eP, ew]
    exact hs
end
end LX
/-! own exceptions that carry fields, caught and asked; defs called where one is handled -/
namespace LX
open PySem PySem.Spec PyProof.Rows L2 NdefX
/-- what an own exception class says -/
structure ExK (K : PySem.W.Frag) (D : Addr) : Prop where
  ox : OexC K D
  hg : PySem.W.findIn K (.ref D) "__getattribute__" = some (some (.builtin "BaseException.__getattribute__"))
  hk : PySem.W.findIn K (.ref D) "__getattr__" = some none
  hd : PySem.W.hasDictIn K D = true
  ha : PySem.W.findIn K (.ref D) "__class__" = some (some (.builtin "object.__class__"))
  hn : PySem.W.specialIn K (.builtin "object.__class__") "__get__" = some (some (.builtin "getset_descriptor.__get__"))
  ht : PySem.W.takesIn K (.builtin "object.__class__") = some true
  hm : PySem.W.mroIn K D (.type "object") = some true
section
variable {P : Program} {w : World} {K : PySem.W.Frag} {mg : Str → Option Value} {base : Heap}
theorem okN {x qual : Str} {st : Stmt} {f : Addr} {fd : FuncData} {N ps : List Str} {k : Nat} {sp : Sp} (F : Fun K x qual st f fd) (S : FnScope N ps (defScope st)) (len : ∀ vs H Q E, sp vs H Q E → vs.length = ps.length)
    (hbody : ∀ (cdv : Value) (A : Around) (outer : List Env) (s : Shared) (H : Hp) (vs : List V) (Q : VK) (E : XK), Room k (A.deeper (envOfC qual (defScope st) s.heap.objs.size f cdv)) → sp vs H Q E →
      ∃ t, PSs (cxOf (L2N.CX P w) P w K mg base N qual (defScope st) f cdv A outer s H E) (defBody st) t ∧ t { nx := fun _ H' => Q .non H', rt := Q } (L2.start N vs) H) : FnOk P w K mg base (L2N.CX P w) (k + 1) f fd ps sp := by
  obtain ⟨oc, od, kV, doc, pm, an, cdv, ct, osl, rfl, lk, hcd⟩ := F.ex
  exact fn_of lk hcd S len fun A outer s H vs Q E hr hsp => hbody cdv A outer s H vs Q E hr hsp
end
section
variable {X : Cx} {o e : Expr} {es : List Expr} {to te : TE} {ta : TA} {f : Str} {p p' p1 p2 pos : Pos}
theorem pmk_x {CX : CXT} {x : Str} {C fI : Addr} {k : Nat} {fd : FuncData} {ps : List Str} {sp : Sp} (T : OexC X.K C) (iC : PySem.W.findIn X.K (.ref C) "__init__" = some (some (.ref fI)) ∧ PySem.W.typeIn X.K (.ref fI) = some (.type "function"))
    (F1 : FnOk X.prog X.w X.K X.mg X.base CX k fI fd ps sp) (hr : Room (k + 1) X.A) (hb : Binds X.K fd ps []) (hx : Passes CX X (fun _ _ _ => False)) (hg : Gl X x) (hm : X.mg x = some (.ref C)) (ha : PA X (e :: es) ta)
    (hdb : (x == ("__debug__" : Str)) = false := by decide) (he : starEach (e :: es) X.env = (false, eval e X.env) :: starEach es X.env := by rfl) (hpl : (backTo pos (starEach es X.env)).any (·.1) = false := by rfl) :
    L2N.PMk X (.Call (.Name x p) (e :: es) [] pos) (tMkO C sp [] ta) := by
  obtain ⟨iC, tI⟩ := iC
  intro pins s σ H Q I h
  obtain ⟨nm, q, N, bs, bm, sn, sub, ab, col, dd, k0, k1, k2, k3, k5, hC, hbm⟩ := T.cls
  refine wpAny_Call_Name_kw (ld_glob I hg hm ?_ hdb)
  refine PySem.W.callWith_K (h₀ := X.base) I.ok.mod.kin T.kC (thn (ha.run pos pins s σ H _ I h) fun us s1 ⟨vs, H1, I1, r1, hz, q1⟩ => ⟨I1.kIn, ?_⟩) he hpl
  show wpAny _ _ (call (.ref C) us) _ _ _
  obtain ⟨hp, g, dr, tk, os⟩ := s1
  have hsz : hp.objs.size ≤ hp.objs.size + 1 := Nat.le_succ _
  have hn : H1 (hp.objs.size + 1) = none := I1.hok.fresh hsz
  have hq := q1 (hp.objs.size + 1) hn
  rw [List.append_nil] at hq
  have kk : ∀ b o, hp.get? b = some o → ((hp.push (PySem.W.kdv_tup us)).push (PySem.HandSPX.excO C hp.objs.size)).get? b = some o := fun b o e => Heap.get?_push_of_some _ (Heap.get?_push_of_some _ e)
  have hget : ((hp.push (PySem.W.kdv_tup us)).push (PySem.HandSPX.excO C hp.objs.size)).get? (hp.objs.size + 1) = some (PySem.HandSPX.excO C hp.objs.size) := by heap_get
  have I2 : Inv X pins σ (upd H1 (hp.objs.size + 1) (exo (hp.objs.size + 1) C none)) ⟨(hp.push (PySem.W.kdv_tup us)).push (PySem.HandSPX.excO C hp.objs.size), g, dr, tk, os⟩ :=
    I1.laid (t' := tk) (a := hp.objs.size + 1) (o := exo (hp.objs.size + 1) C none) (h' := (hp.push (PySem.W.kdv_tup us)).push (PySem.HandSPX.excO C hp.objs.size)) kk hsz (exo_ok hget)
  have r2 : Vals (V.ref (hp.objs.size + 1) :: vs) (Value.ref (hp.objs.size + 1) :: us) := .cons rfl r1
  have hl : (Value.ref (hp.objs.size + 1) :: us).length = ps.length := by
    have e := r2.length
    rw [F1.len _ _ _ _ hq] at e
    exact e.symm
  have hus : us.length ≤ sizeLine := by
    rw [← Paired.length r1, sizeLine_eq]
    omega
  have hb1 := hb ⟨(hp.push (PySem.W.kdv_tup us)).push (PySem.HandSPX.excO C hp.objs.size), g, dr, tk, os⟩ (Value.ref (hp.objs.size + 1) :: us) I2.kIn (by rw [List.append_nil]; exact hl)
  rw [List.append_nil] at hb1
  refine wpAny_call (PySem.HandSPX.call_own F.excBase_ValueError (fun Y => PySem.HandSPX.refsVE_contains Y bm hbm) (I1.kIn _ _ hC) (PySem.W.looks_findIn I1.kIn iC) (fun self => PySem.W.bind_fn I1.kIn self tI) hus
    (codeAny_mono (F1.run _ X.stack _ _ ⟨Value.ref (hp.objs.size + 1) :: us, []⟩ (Value.ref (hp.objs.size + 1) :: us) _ _ (fun _ _ _ => False) (hr.make C us []) (I2.env0.make C us []) hb1 r2 hq) fun r s' hq' => ?_))
  cases r with
  | error er => exact hx pins σ _ _ er s' I2 hq'
  | ok fl =>
    cases fl with
    | ret u =>
      obtain ⟨v, H2, os2, bare2, un2, hok2, rv, ev, d, fs, ea, ed, hd1, q2⟩ := hq'
      subst ev
      obtain ⟨h2, g2, d2, t2, os'⟩ := s'
      obtain ⟨t0, G, J, kG, ge, hoe, na⟩ := mk_end0 (d2 := d2) (t2 := t2) I1 hsz kk un2 hok2 os2 bare2 ea ed hd1
      exact ⟨rv, _, _, _, ⟨G, g2, d2, t2, os'⟩, _, .ref C, some d, rfl, J, kG, ge, hoe, ⟨rfl, rfl, fun vs e => by cases e; rfl⟩, rfl, rfl, na, rfl, bare2, raises_own T.exC T.tyC, q2⟩
    | next => exact False.elim hq'
    | brk => exact False.elim hq'
    | cont => exact False.elim hq'
end
/-! ### calls within a try -/
section
variable {X : Cx} {CX : CXT} {k : Nat} {f C : Addr} {fd : FuncData} {ps : List Str} {sp : Sp} {E : L2.St → XK} {x m : Str} {p pos apos : Pos} {e o : Expr} {es : List Expr} {ta : TE} {t : TA}
theorem pe_methAt {pl : Sem Bool} (he : PE X o ta) (c : Cls X.K C) (hm : Meth X.K C m f) (F : FnOk X.prog X.w X.K X.mg X.base CX k f fd ps sp) (hr : Room k X.A) (hb : Binds X.K fd ps []) (hx : ∀ σ, PassesAt CX X σ (E σ)) (ha : PA X (e :: es) t)
    (hst : starEach (e :: es) X.env = (false, eval e X.env) :: starEach es X.env := by rfl) (hpl : (backTo pos (starEach es X.env)).any (·.1) = false := by rfl)
    (ht : eval (.Call (.Attribute o m apos) (e :: es) [] pos) X.env = (do
      let ov ← eval o X.env
      standAt apos.atName
      let (f, first) ← holding [ov] (getMethod ov m pl)
      callWith pos f first (backTo pos (starEach (e :: es) X.env)) (backToKw pos (keywordEach [] X.env))) := by rfl) :
    PE X (.Call (.Attribute o m apos) (e :: es) [] pos) (L2H.tMethH C m sp E ta t) := by
  refine ⟨fun pins s σ H Q I h => ?_⟩
  refine PySem.W.methodCall_KW (pl := pl) (thn (he.run pins s σ H _ I h) fun u s1 ⟨x, H1, I1, rx, a, dx, fs, ex, ea, l, q⟩ => ?_) ht
  subst ex
  obtain rfl : u = Value.ref a := rx
  refine getmeth_ok I1 ea c hm l ?_
  refine PySem.W.callWith_K (first := [.ref a]) (h₀ := X.base) I.ok.mod.kin hm.kp (thn (ha.run pos pins s1 σ H1 _ I1 q) fun us s2 ⟨vs, H2, I2, r, q2⟩ => ⟨I2.kIn, ?_⟩) hst hpl
  exact run_fnS (us := .ref a :: us) (vs := .ref a :: vs) F hr hb (hx σ) I2 (.cons rfl r) q2
theorem pe_methAt0 {pl : Sem Bool} (he : PE X o ta) (c : Cls X.K C) (hm : Meth X.K C m f) (F : FnOk X.prog X.w X.K X.mg X.base CX k f fd ps sp) (hr : Room k X.A) (hb : Binds X.K fd ps []) (hx : ∀ σ, PassesAt CX X σ (E σ))
    (ht : eval (.Call (.Attribute o m apos) [] [] pos) X.env = (do
      let ov ← eval o X.env
      standAt apos.atName
      let (f, first) ← holding [ov] (getMethod ov m pl)
      callWith pos f first (backTo pos (starEach [] X.env)) (backToKw pos (keywordEach [] X.env))) := by rfl) :
    PE X (.Call (.Attribute o m apos) [] [] pos) (L2H.tMethH C m sp E ta tNil) := by
  refine ⟨fun pins s σ H Q I h => ?_⟩
  refine PySem.W.methodCall_KW (pl := pl) (thn (he.run pins s σ H _ I h) fun u s1 ⟨x, H1, I1, rx, a, dx, fs, ex, ea, l, q⟩ => ?_) ht
  subst ex
  obtain rfl : u = Value.ref a := rx
  refine getmeth_ok I1 ea c hm l ?_
  exact PySem.W.callWith_K0 (first := [.ref a]) I1.kIn hm.kp (run_fnS (us := [.ref a]) (vs := [.ref a]) F hr hb (hx σ) I1 (.cons rfl .nil) q)
end
theorem pass0At {X : Cx} {E : L2.St → XK} : ∀ σ, PassesAt CX0 X σ (E σ) := fun _ _ _ _ _ _ _ h => h.elim
/-! ### asking the exception that is held -/
/-- what is known of a pinned exception -/
structure PinE (cls : Value) (d : Option Addr) (oe : Obj) : Prop where
  z : L2N.Zn cls d oe
  f : ∃ vs, oe.data = .fields vs
def rIsP (K : PySem.W.Frag) (a : Addr) (cls : Value) (d : Option Addr) : List V → Hp → VK → Prop := fun xs H Q => ∃ (D : Addr) (c : V) (cv : Value) (b : Bool), cls = .ref D ∧ ExK K D ∧ xs = [.ref a, c] ∧ ClsV c cv ∧ PySem.W.kitOne K (.ref D) cv = some b ∧ (∀ dd, d = some dd → ∃ fs, H dd = some (.xd fs)) ∧ Q (.bl b) H
theorem call_isP {X : Cx} {a : Addr} {oe : Obj} {cls : Value} {d : Option Addr} (hp : (a, oe) ∈ X.pn) (Z : PinE cls d oe) : CallR X (.builtin "isinstance") (rIsP X.K a cls d) := by
  intro pins s σ H xs us Q I r h
  obtain ⟨D, c, cv, b, rfl, C, rfl, hcv, e, hdd, q⟩ := h
  cases r with
  | cons rx rr =>
    cases rr with
    | cons rt rr =>
      cases rr
      cases rx
      have ec := hcv.eq rt
      subst ec
      obtain ⟨hget, _⟩ := I.pin (a, oe) (List.mem_append_left _ hp)
      obtain ⟨vs, hv⟩ := Z.f
      have hz := Z.z.zc
      obtain ⟨cdD, hcD, _⟩ := PySem.W.any_some C.hd
      cases d with
      | none =>
        have J : PySem.W.InstAt s.heap a oe D none := by
          obtain ⟨oc, od, oda, osl⟩ := oe
          obtain ⟨h1, h2⟩ := hz
          dsimp only at h1 h2 hv
          subst h1 h2 hv
          exact ⟨hget, rfl, rfl, trivial⟩
        exact PySem.W.kia_one (PySem.W.kitx_exc (by rw [hcD]; rfl) C.hg C.hk C.ox.exC C.ha C.hn C.ht C.hm) I.kIn J e (fun z => nomatch z) fun tk => ⟨.bl b, H, I.kept (t' := tk) fun _ _ z => z, rfl, q⟩
      | some dd =>
        obtain ⟨fs, hfs⟩ := hdd dd rfl
        have hx : ObjOk X.prog X.w H s.heap dd (.xd fs) := I.hok dd _ hfs
        obtain ⟨mA, hns, hr⟩ := hx
        obtain ⟨od, ho, hl⟩ := lookIn_ns hns
        have J : PySem.W.InstAt s.heap a oe D (some od) := ⟨hget, hz.1, by unfold PySem.W.notCls; rw [hv] <;> rfl, by rw [hz.2]; exact ho⟩
        exact PySem.W.kia_one (PySem.W.kitx_exc (by rw [hcD]; rfl) C.hg C.hk C.ox.exC C.ha C.hn C.ht C.hm) I.kIn J e (fun z => nomatch z) fun tk => ⟨.bl b, H, I.kept (t' := tk) fun _ _ z => z, rfl, q⟩
/-- field f of the exception held -/
def tXfP (K : PySem.W.Frag) (a : Addr) (cls : Value) (d : Option Addr) (f : Str) (te : TE) : TE := fun σ H Q => te σ H fun x H1 => x = .ref a ∧ ∃ (C dd : Addr) (fs : List (Str × V)) (v : V), cls = .ref C ∧ ExK K C ∧ PySem.W.findIn K (.ref C) f = some none ∧ d = some dd ∧ H1 dd = some (.xd fs) ∧ fs.lookup f = some v ∧ Q v H1
theorem pe_xfP {X : Cx} {a : Addr} {oe : Obj} {cls : Value} {d : Option Addr} {e : Expr} {te : TE} {pos : Pos} {n : Str} (hp : (a, oe) ∈ X.pn) (Z : PinE cls d oe) (he : PE X e te) (hb : attributeBase e n X.env (eval e X.env) = eval e X.env := by rfl) :
    PE X (.Attribute e n pos) (tXfP X.K a cls d n te) := by
  refine ⟨fun pins s σ H Q I h => ?_⟩
  refine attr_of hb (thn (he.run pins s σ H _ I h) fun u s1 hh => ?_)
  obtain ⟨x, H1, I1, rx, ex, C, dd, fs, v, ec, T, hno, ed, ea, l, q⟩ := hh
  subst ex
  obtain rfl : u = Value.ref a := rx
  subst ec
  subst ed
  have hz := Z.z.zc
  obtain ⟨ha, _⟩ := I1.pin (a, oe) (List.mem_append_left _ hp)
  obtain ⟨vs, hd⟩ := Z.f
  have hx : ObjOk X.prog X.w H1 s1.heap dd (.xd fs) := I1.hok dd _ ea
  obtain ⟨mA, hns, hr⟩ := hx
  obtain ⟨od, ho, hl⟩ := lookIn_ns hns
  obtain ⟨u, hu, ru⟩ := RelO.some_of (v := v) (o := mA n) (by rw [← l]; exact hr n)
  have J : PySem.W.InstAt s1.heap a oe C (some od) := ⟨ha, hz.1, by unfold PySem.W.notCls; rw [hd] <;> rfl, by rw [hz.2]; exact ho⟩
  exact HandSPX.exc_get I1.kIn J T.hg T.hk T.ox.exC (PySem.W.findObj_own T.hd hno rfl (by rw [hl, hu])) (handed_of ru) ⟨v, H1, I1.tok _, ru, q⟩
/-! ### defs called where an exception is handled, that may know it -/
abbrev SpP := Addr → Value → Option Addr → Sp
structure FnHP (P : Program) (w : World) (K : PySem.W.Frag) (mg : Str → Option Value) (base : Heap) (CX : CXT) (k : Nat) (f : Addr) (fd : FuncData) (ps : List Str) (sp : SpP) : Prop where
  len : ∀ a cls d vs H Q E, sp a cls d vs H Q E → vs.length = ps.length
  run : ∀ (A : Around) (outer : List Env) (s : Shared) (H : Hp) (args : Args) (us : List Value) (vs : List V) (Q : VK) (E : XK) (p : Addr × Obj) (cls : Value) (d : Option Addr), L2H.RoomH k A → L2H.Hot1 A p → PinE cls d p.2 → L2H.PinOk outer H s p → Env0 P w K mg base A outer s H → BindsTo s fd args (ps.zip us) → Vals vs us → sp p.1 cls d vs H Q E →
    codeAny (model P w) A (.call (.ref f) args) (CR CX outer P w H s Q E) s
theorem fn_ofHP {CX : CXT} {P : Program} {w : World} {K : PySem.W.Frag} {mg : Str → Option Value} {base : Heap} {k : Nat} {f : Addr} {name qual : Str} {params : Arguments} {body : List Stmt} {scope : Scope} {dV kV doc pm cdv ct oc : Value} {an od : Option Addr}
    {osl : Array (Option Value)} {N ps : List Str} {sp : SpP} (lk : K.lookup f = some ⟨oc, od, .func (PySem.W.fnOf name qual params body scope dV kV doc pm an cdv ct), osl⟩) (hcd : PySem.W.codeIn K cdv qual = true) (S : FnScope N ps scope)
    (len : ∀ a cls d vs H Q E, sp a cls d vs H Q E → vs.length = ps.length)
    (hbody : ∀ (A : Around) (outer : List Env) (s : Shared) (H : Hp) (vs : List V) (Q : VK) (E : XK) (p : Addr × Obj) (cls : Value) (d : Option Addr), L2H.Hot1 A p → PinE cls d p.2 → L2H.RoomH k (A.deeper (envOfC qual scope s.heap.objs.size f cdv)) → sp p.1 cls d vs H Q E →
      ∃ t, PSs (L2H.cxH CX P w K mg base N qual scope f cdv A outer s H E p) body t ∧ t { nx := fun _ H' => Q .non H', rt := Q } (L2.start N vs) H) :
    FnHP P w K mg base CX (k + 1) f (PySem.W.fnOf name qual params body scope dV kV doc pm an cdv ct) ps sp := by
  refine ⟨len, fun A outer s H args us vs Q E p cls d hr hot Z hpin e0 hb r hsp => ?_⟩
  have hl := len _ _ _ _ _ _ _ hsp
  have KX : K.In s.heap := e0.mod.kin.keeps fun b o e => (e0.bs b o e).1
  have lim : s.heap.NoLimit := e0.mod.nolimit.keeps fun b o e => (e0.bs b o e).1
  have hkind : ∀ y ∈ ps.zip us, scope.names.lookup y.1 = some .local ∨ (scope.names.lookup y.1 = some .cell ∧ ((cellsFrom (s.heap.objs.size + 1) scope.names []).lookup y.1).isSome = true) := fun ⟨n, v⟩ hy => by
    rcases S.par n (List.of_mem_zip hy).1 with q | q
    · exact .inl q
    · exact .inr ⟨q, PySem.W.cellsFrom_some _ _ _ (.inl q)⟩
  refine codeAny_call_function hr.depth (KX _ _ lk) rfl S.co S.gen rfl (PySem.W.codeRec_of KX hcd) (hb _ _ _ _ ?_)
  refine wpAny_newFunctionEnv_cells S.kind hkind fun env he s1 x => ?_
  subst he
  refine ⟨lim.keeps x.toInCall.keep, codeAny_func ?_⟩
  obtain ⟨t, ht, hq⟩ := hbody A outer s H vs Q E p cls d hot Z (hr.deeper _) hsp
  have I : Inv (L2H.cxH CX P w K mg base N qual scope f cdv A outer s H E p) [] (L2.start N vs) H s1 := L2H.inv_startH S hpin e0 hl r x
  refine wpAny_mono (ht.run [] s1 (L2.start N vs) H _ I hq) (fun fl s' hs => ?_) fun e s' hs => hs
  have fin : ∀ {σ' : L2.St} {H' : Hp} {v : V} {u : Value}, Inv (L2H.cxH CX P w K mg base N qual scope f cdv A outer s H E p) [] σ' H' s' → RelV v u → Q v H' → CE outer P w H s Q u s' :=
    fun {σ' H' v u} J rv q => ⟨v, H', J.os, J.bare, J.base, J.hok, rv, q⟩
  cases fl with
  | ret u =>
    obtain ⟨v, σ', H', J, rv, q⟩ := hs
    exact fin J rv q
  | next =>
    obtain ⟨σ', H', J, q⟩ := hs
    exact fin (v := V.non) (u := Value.none) J rfl q
  | brk =>
    obtain ⟨_, _, _, q⟩ := hs
    exact False.elim q
  | cont =>
    obtain ⟨_, _, _, q⟩ := hs
    exact False.elim q
theorem okHP {P : Program} {w : World} {K : PySem.W.Frag} {mg : Str → Option Value} {base : Heap} {x qual : Str} {st : Stmt} {f : Addr} {fd : FuncData} {N ps : List Str} {k : Nat} {sp : SpP} {CX : CXT} (F : Fun K x qual st f fd) (S : FnScope N ps (defScope st)) (len : ∀ a cls d vs H Q E, sp a cls d vs H Q E → vs.length = ps.length)
    (hbody : ∀ (cdv : Value) (A : Around) (outer : List Env) (s : Shared) (H : Hp) (vs : List V) (Q : VK) (E : XK) (p : Addr × Obj) (cls : Value) (d : Option Addr), L2H.Hot1 A p → PinE cls d p.2 → L2H.RoomH k (A.deeper (envOfC qual (defScope st) s.heap.objs.size f cdv)) → sp p.1 cls d vs H Q E →
      ∃ t, PSs (L2H.cxH CX P w K mg base N qual (defScope st) f cdv A outer s H E p) (defBody st) t ∧ t { nx := fun _ H' => Q .non H', rt := Q } (L2.start N vs) H) : FnHP P w K mg base CX (k + 1) f fd ps sp := by
  obtain ⟨oc, od, kV, doc, pm, an, cdv, ct, osl, rfl, lk, hcd⟩ := F.ex
  exact fn_ofHP lk hcd S len fun A outer s H vs Q E p cls d hot Z hr hsp => hbody cdv A outer s H vs Q E p cls d hot Z hr hsp
section
variable {X : Cx} {CX : CXT} {k : Nat} {f C : Addr} {fd : FuncData} {ps : List Str} {sp : SpP} {E : L2.St → XK} {x m : Str} {q pos apos : Pos} {e o : Expr} {es : List Expr} {ta : TE} {t : TA} {p : Addr × Obj} {cls : Value} {d : Option Addr}
theorem run_fnHP {pins : List (Addr × Obj)} {σ : L2.St} {H : Hp} {s : Shared} {Q : VK} {us : List Value} {vs : List V} (F : FnHP X.prog X.w X.K X.mg X.base CX k f fd ps sp) (hr : L2H.RoomH k X.A) (hot : L2H.Hot1 X.A p) (Z : PinE cls d p.2) (hp : p ∈ X.pn) (hb : Binds X.K fd ps []) (hx : PassesAt CX X σ (E σ))
    (I : Inv X pins σ H s) (r : Vals vs us) (h : sp p.1 cls d vs H Q (E σ)) : wpAny (model X.prog X.w) X.A (call (.ref f) us) (EP X pins σ Q) X.xe s := by
  have hl : us.length = ps.length := by rw [← r.length]; exact F.len _ _ _ _ _ _ _ h
  have b := hb s us I.kIn (by rw [List.append_nil]; exact hl)
  rw [List.append_nil] at b
  have P1 := I.pin p (List.mem_append_left _ hp)
  have hpin : L2H.PinOk X.stack H s p := ⟨P1.1, P1.2.1, fun hm => (List.mem_cons.mp (I.stkSub p.1 hm)).elim P1.2.2.1 P1.2.2.2.1, P1.2.2.2.2⟩
  refine wpAny_call (codeAny_mono (F.run X.A X.stack s H ⟨us, []⟩ us vs Q (E σ) p cls d hr hot Z hpin I.env0 b r h) fun r s' hq => ?_)
  cases r with
  | error e => exact hx pins H s e s' I hq
  | ok fl =>
    cases fl with
    | ret u => exact I.after hq
    | next => exact False.elim hq
    | brk => exact False.elim hq
    | cont => exact False.elim hq
theorem pe_callHP {a : Addr} {oe : Obj} (F : FnHP X.prog X.w X.K X.mg X.base CX k f fd ps sp) (hr : L2H.RoomH k X.A) (hot : L2H.Hot1 X.A (a, oe)) (Z : PinE cls d oe) (hp : (a, oe) ∈ X.pn) (hg : Gl X x) (hm : X.mg x = some (.ref f)) (hk : PySem.W.keepIn X.K (.ref f) = true) (hb : Binds X.K fd ps []) (hx : ∀ σ, PassesAt CX X σ (E σ))
    (ha : PA X (e :: es) t) (hdb : (x == ("__debug__" : Str)) = false := by decide) (he : starEach (e :: es) X.env = (false, eval e X.env) :: starEach es X.env := by rfl) (hpl : (backTo pos (starEach es X.env)).any (·.1) = false := by rfl) :
    PE X (.Call (.Name x q) (e :: es) [] pos) (tCallS (sp a cls d) E t) := by
  refine ⟨fun pins s σ H Q I h => ?_⟩
  refine wpAny_Call_Name_kw (ld_glob I hg hm ?_ hdb)
  refine PySem.W.callWith_K (h₀ := X.base) I.ok.mod.kin hk (thn (ha.run pos pins s σ H _ I h) fun us s1 ⟨vs, H1, I1, r, q⟩ => ⟨I1.kIn, ?_⟩) he hpl
  exact run_fnHP (p := (a, oe)) F hr hot Z hp hb (hx σ) I1 r q
end
theorem suite_hot {X : Cx} {a : Addr} {oe : Obj} {cls : Value} {d : Option Addr} {pn : List (Addr × Obj)} (Z : PinE cls d oe) : L2H.Hot1 (X.suite a ((a, oe) :: pn)).A (a, oe) := by
  obtain ⟨vs, hv⟩ := Z.f
  exact ⟨rfl, vs, hv, Z.z.2.2 vs hv⟩
theorem huH_of {A : Around} {k : Nat} (hr : L2H.RoomH k A) : A.units + 64 < cLine := by have := hr.un; omega
theorem hu1H_of {A : Around} {k : Nat} (hr : L2H.RoomH k A) : A.units + 1 < cLine := by have := hr.un; omega
theorem roomS {X : Cx} {k : Nat} {a : Addr} {pn : List (Addr × Obj)} (hr : Room k X.A) : L2H.RoomH k (X.suite a pn).A := ⟨hr.dp, hr.un⟩
theorem takes0N {X : Cx} : L2N.Takes X (fun _ _ _ _ => False) := fun _ _ x => by
  obtain ⟨_, _, _, _, _, _, _, _, _, _, _, _, _, _, _, _, z⟩ := x
  exact z.elim
/-! ### an own exception with one field -/
def StrOk : V → Prop
  | .int i => i.natAbs.log2 < 1920
  | .str _ => True
  | _ => False
def sp_exc1 (C : Addr) (f : Str) : Sp := fun vs H Q _ => ∃ (a : Addr) (x : V), vs = [.ref a, x] ∧ StrOk x ∧ H a = some (exo a C none) ∧ ∀ dx, H dx = none → dx ≠ a → Q .non (L2.upd (L2.upd H dx (exd dx [(f, x)])) a (exo a C (some dx)))
theorem exc1_go {x : V} {H : Hp} {Q : VK} (hx : StrOk x) (h : ∀ z, Q (.str z) H) : rStrU [x] H Q := by
  cases x with
  | int i => exact ⟨hx, h _⟩
  | str z => exact h _
  | _ => exact hx.elim
theorem exc1_mk {C : Addr} {f : Str} {x : V} {H : Hp} {Q : XK} {E : XK} (hx : StrOk x) (h : ∀ d, H d = none → Q (.ref C) (some d) (L2.upd H d (.xd [(f, x)]))) :
    [x].length ≤ 1000 ∧ ∀ a, H a = none → sp_exc1 C f (.ref a :: ([x] ++ [])) (L2.upd H a (exo a C none))
      (fun v H2 => v = .non ∧ ∃ (d : Addr) (fs : List (Str × V)), H2 a = some (exo a C (some d)) ∧ H2 d = some (exd d fs) ∧ H d = none ∧ Q (.ref C) (some d) (L2.upd (del H2 a) d (.xd fs))) E := by
  refine ⟨(by show 1 ≤ 1000; decide), fun a ha => ⟨a, x, rfl, hx, upd_same, fun dx h1 h2 => ⟨rfl, dx, _, upd_same, by rw [upd_ne h2]; exact upd_same, by rw [upd_ne h2] at h1; exact h1, ?_⟩⟩⟩
  have e : L2.upd (del (L2.upd (L2.upd (L2.upd H a (exo a C none)) dx (exd dx [(f, x)])) a (exo a C (some dx))) a) dx (.xd [(f, x)]) = L2.upd H dx (.xd [(f, x)]) := by
    funext b
    by_cases hb : b = dx
    · subst hb; rw [upd_same, upd_same]
    · rw [upd_ne hb, upd_ne hb]
      by_cases hba : b = a
      · subst hba; rw [del_same, ha]
      · rw [del_ne hba, upd_ne hba, upd_ne hb, upd_ne hba]
  rw [e]
  exact h dx (by rw [upd_ne h2] at h1; exact h1)
/-! ### rules with the law's own K, for a try's body and suite -/
section
variable {X : Cx} {K : PySem.W.Frag}
theorem pe_bmK {T name id : String} {r : V → List V → Hp → VK → Prop} {o e : Expr} {es : List Expr} {apos cpos : Pos} {to : TE} {t : TA} (eK : X.K = K) (pa : PlainAttrs T) (slot : Slot T name id) (hty : typeOf (.builtin id) = pure (.type "method_descriptor")) (hm : MtR X id r) (ho : PE X o to) (ha : PA X (e :: es) t)
    (hbase : attributeBase o name X.env (eval o X.env) = eval o X.env := by rfl)
    (hfew : ((backTo cpos (starEach (e :: es) X.env)).all (fun x => !x.1) && (backToKw cpos (keywordEach [] X.env)).all (fun x => x.1.isSome)
      && decide ((e :: es).length + ([] : List Keyword).length + (if ([] : List Keyword).isEmpty then 0 else 1) < 30)) = true := by rfl)
    (hline : (apos.endLine == cpos.line) = true := by rfl) (hs : starEach (e :: es) X.env = (false, eval e X.env) :: starEach es X.env := by rfl) (hplain : (backTo cpos (starEach es X.env)).any (·.1) = false := by rfl) :
    PE X (.Call (.Attribute o name apos) (e :: es) [] cpos) (tBM K T r to t) := by subst eK; exact pe_bm pa slot hty hm ho ha hbase hfew hline hs hplain
theorem call_isiK (eK : X.K = K) : CallR X (.builtin "isinstance") (rIsi K) := by subst eK; exact call_isi
theorem call_isPK {a : Addr} {oe : Obj} {cls : Value} {d : Option Addr} (eK : X.K = K) (hp : (a, oe) ∈ X.pn) (Z : PinE cls d oe) : CallR X (.builtin "isinstance") (rIsP K a cls d) := by subst eK; exact call_isP hp Z
theorem pe_xfPK {a : Addr} {oe : Obj} {cls : Value} {d : Option Addr} {e : Expr} {te : TE} {pos : Pos} {n : Str} (eK : X.K = K) (hp : (a, oe) ∈ X.pn) (Z : PinE cls d oe) (he : PE X e te) (hb : attributeBase e n X.env (eval e X.env) = eval e X.env := by rfl) :
    PE X (.Attribute e n pos) (tXfP K a cls d n te) := by subst eK; exact pe_xfP hp Z he hb
theorem pe_notTK {a : Expr} {ta : TE} {pos : Pos} (eK : X.K = K) (ha : PE X a ta) : PE X (.UnaryOp .Not a pos) (tNotT K ta) := by subst eK; exact pe_notT ha
end
def tTryAs (K : PySem.W.Frag) (c : Value) (i : Nat) (ts : Addr → Value → Option Addr → TS) (Wout : WX) (tb : WX → TS) : TS := fun D σ H => tb (wAs K c i ts Wout D) D σ H
theorem ps_tryAs {X : Cx} {K : PySem.W.Frag} {x n : Str} {c : Value} {i : Nat} {body suite : List Stmt} {b₀ : Stmt} {np pos pos' : Pos} {tb : WX → TS} {ts : Addr → Value → Option Addr → TS} {Wout : WX} (eK : X.K = K)
    (hs : X.stack = X.env :: X.outer) (hf : X.env.frame = some X.env.locals) (hN : X.N.Nodup) (hi : X.N[i]? = some n) (hln : X.env.kindOf n = some .local) (hc : Names X x c) (tk : L2N.Takes X Wout)
    (hb : ∀ (W : WX) (pn : List (Addr × Obj)) (xe : Value → Shared → Prop), L2N.Takes (X.tr pn xe) W → PassesOwn (model X.prog X.w) X.A X.env xe → PSs (X.tr pn xe) body (tb W))
    (hsu : ∀ (a : Addr) (oe : Obj) (cls : Value) (d : Option Addr) (pn : List (Addr × Obj)), L2N.Zn cls d oe → (∃ vs, oe.data = .fields vs) → PSs (X.suite a ((a, oe) :: pn)) (b₀ :: suite) (ts a cls d)) :
    PS X (.Try body [.ExceptHandler (some (.Name x np)) (some n) (b₀ :: suite) pos'] [] [] pos) (tTryAs K c i ts Wout tb) := by subst eK; exact L2N.ps_try_as hs hf hN hi hln hc tk hb hsu
theorem passF {X : Cx} : Passes (L2N.CX X.prog X.w) X (fun _ _ _ => False) := fun _ _ _ _ _ _ _ c => by
  obtain ⟨_, _, _, _, _, _, _, _, _, _, _, _, h⟩ := c
  exact h.elim
end LX
/-! a try with several clauses `except X as n`, clause by clause -/
namespace LX
open PySem PySem.Spec PyProof.Rows L2 NdefX
/-- the clauses hds take any exception that has landed, where wsh is kept -/
def HdlOk (X : Cx) (hds : List ExceptHandler) (wsh : Ends → WX) : Prop :=
  ∀ (pins : List (Addr × Obj)) (σ : L2.St) (H : Hp) (s0 s : Shared) (B : Heap) (x1 : Addr) (cls : Value) (d : Option Addr) (D : Ends), Inv X pins σ H s0 →
    (∀ b o, s0.heap.get? b = some o → b ∉ frs X.stack → B.get? b = some o) → s0.heap.UpToSlots s.heap → HandSPX.FlyingZ B (X.env :: X.outer) x1 (L2N.Zn cls d) s.heap → H x1 = none → s.os = s0.os → AllBare s.gens → wsh D cls d σ H →
    wpAny (model X.prog X.w) X.A (handleBy (.ref x1) X.env hds) (SP X pins D) X.xe s
section
variable {X : Cx} {Wout : WX}
theorem hdl_nil (hs : X.stack = X.env :: X.outer) (hf : X.env.frame = some X.env.locals) (tk : L2N.Takes X Wout) : HdlOk X [] fun _ => Wout := by
  intro pins σ H s0 s B x1 cls d D I nb up fl na os ag hw
  have keep := fl
  obtain ⟨_, _, _, ox, ws, T, _, _, e1, _, e2, e3, _⟩ := fl
  refine wpAny_handleBy_nil ?_
  unfold PySem.passOn
  refine wpAny_bind (wpAny_field e1 e2 e3 ?_)
  have nT : ¬ ((Value.ref T == Value.none) = true) := by simp
  rw [if_neg nT]
  have last : wpAny (model X.prog X.w) X.A (setFlight (.ref x1) X.env.frame) (fun _ u => wpAny (model X.prog X.w) X.A (throw (.ref x1) : Sem Flow) (SP X pins D) X.xe u) X.xe s := by
    rw [hf]
    refine HandSPX.setFlight_upZ keep fun g held more => wpAny_throw (tk _ _ ?_)
    refine ⟨x1, B, s0, pins, σ, H, cls, d, rfl, I, nb, up.trans more, Or.inr (Or.inr ?_), na, os, ag, hw⟩
    rw [hs]; exact held
  first
    | exact wpAny_bind (wpAny_pure (wpAny_bind last))
    | exact wpAny_bind last
theorem hdl_as {x n : Str} {c : Value} {i : Nat} {suite : List Stmt} {b₀ : Stmt} {np hpos : Pos} {hds : List ExceptHandler} {ts : Addr → Value → Option Addr → TS} {wr : Ends → WX} (hs : X.stack = X.env :: X.outer) (hf : X.env.frame = some X.env.locals)
    (hN : X.N.Nodup) (hi : X.N[i]? = some n) (hln : X.env.kindOf n = some .local) (hc : Names X x c)
    (hsu : ∀ (a : Addr) (oe : Obj) (cls : Value) (d : Option Addr) (pn : List (Addr × Obj)), L2N.Zn cls d oe → (∃ vs, oe.data = .fields vs) → PSs (X.suite a ((a, oe) :: pn)) (b₀ :: suite) (ts a cls d)) (r : HdlOk X hds wr) :
    HdlOk X (.ExceptHandler (some (.Name x np)) (some n) (b₀ :: suite) hpos :: hds) fun D => wAs X.K c i ts (wr D) D := by
  intro pins σ H s0 s B x1 cls d D I nb up fl na os ag hw
  obtain ⟨yes, hm, hy, hno⟩ := hw
  have hok := I.ok
  -- what stands where the exception has landed, in any such heap
  have stand : ∀ g : Heap, HandSPX.FlyingZ B (X.env :: X.outer) x1 (L2N.Zn cls d) g → s0.heap.UpToSlots g → ∃ ob, g.get? x1 = some ob ∧ L2N.Zn cls d ob ∧ (∃ vs, ob.data = .fields vs) ∧ Inv X pins σ H { s with heap := g } ∧ Inv (X.suite x1 ((x1, ob) :: (X.pn ++ pins))) [] σ H { s with heap := g } := fun g fg ug => by
    have Ig : Inv X pins σ H { s with heap := g } := I.landed nb fg.1 ug os ag
    obtain ⟨ob, vs, g1, g2, g3⟩ := fg.there
    have out : x1 ∉ frs (X.env :: X.outer) := fun m => by
      obtain ⟨_, o2, g4, bad⟩ := fg.2.2.1.mem m
      rw [g1] at g4
      cases g4
      exact bad _ g3
    have n1 : x1 ≠ X.env.locals := fun z => by
      refine out (List.mem_filterMap.mpr ⟨X.env, List.mem_cons_self, ?_⟩)
      rw [hf, z]
    have n2 : x1 ∉ X.fs := fun m => by
      obtain ⟨e, m1, m2⟩ := List.mem_filterMap.mp m
      exact out (List.mem_filterMap.mpr ⟨e, List.mem_cons_of_mem _ m1, m2⟩)
    exact ⟨ob, g1, g2, ⟨vs, g3⟩, Ig, Ig.suite g1 g3 na n1 n2⟩
  obtain ⟨ob, o1, o2, _, I3, S3⟩ := stand s.heap fl up
  have ty : PySem.W.Looks (model X.prog X.w) s.heap (typeOf (.ref x1)) cls := fun A' Q' E' u ku q => wpAny_typeOf_ref (ku _ _ o1) (by rw [o2.1]; exact q)
  have asks := PySem.W.exm_one (M := model X.prog X.w) I3.kIn ty hm
  have cl : ∀ {Q' : Value → Shared → Prop} {E' : Value → Shared → Prop}, Q' c s → wpAny (model X.prog X.w) (X.A.mark (some (.ref x1))) (eval (.Name x np) X.env) Q' E' s := fun {Q' E'} q => by
    obtain ⟨c1, c2, c3⟩ := hc
    rcases c3 with c3 | ⟨c3, c4, c5⟩
    · exact ld_glob (X := X.suite x1 ((x1, ob) :: (X.pn ++ pins))) S3 c1 c3 q c2
    · exact ld_blt (X := X.suite x1 ((x1, ob) :: (X.pn ++ pins))) S3 c1 c3 c4 q c5 c2
  refine wpAny_handleBy_cons (codeAny_handlers_test (cl (asks.here ?_))) (fun z => by cases z)
  by_cases hyes : yes = true
  · subst hyes
    refine codeAny_handlers_suite_as (HandSPX.lands_againZ fl fun g fg more => ?_)
    obtain ⟨o4, _, z4, f4, _, S4⟩ := stand g fg (up.trans more)
    refine store_ok (X := X.suite x1 ((x1, o4) :: (X.pn ++ pins))) (v := .ref x1) S4 hN hi (Or.inl hln) rfl (fun u U => ?_) (Or.inr hln)
    refine wpAny_mono ((hsu x1 o4 cls d (X.pn ++ pins) z4 f4).run [] u _ H _ U (hy rfl x1 na)) (fun fl' u' done => ?_) (fun _ _ z => z.elim)
    have behind : ∀ {σ' : L2.St} {H' : Hp} {R : Shared → Prop}, Inv (X.suite x1 ((x1, o4) :: (X.pn ++ pins))) [] σ' H' u' → (∀ v, Inv X pins (σ'.set i none) H' v → R v) →
        wpAny (model X.prog X.w) X.A (do bindName X.env n .none; unbindBehindTheSuite X.env n hpos) (fun _ v => R v) X.xe u' := fun U' k => gone_ok (U'.unsuite hok) hN hi hln k
    cases fl' with
    | next => obtain ⟨_, _, U', q⟩ := done; exact behind U' fun v V => ⟨_, _, V, q⟩
    | brk => obtain ⟨_, _, U', q⟩ := done; exact behind U' fun v V => ⟨_, _, V, q⟩
    | cont => obtain ⟨_, _, U', q⟩ := done; exact behind U' fun v V => ⟨_, _, V, q⟩
    | ret w => obtain ⟨_, _, _, U', rw', q⟩ := done; exact behind U' fun v V => ⟨_, _, _, V, rw', q⟩
  · have e : yes = false := by simpa using hyes
    subst e
    exact r pins σ H s0 s B x1 cls d D I nb up fl na os ag (hno rfl)
theorem ps_tryH {body : List Stmt} {h₀ : ExceptHandler} {hds : List ExceptHandler} {pos : Pos} {tb : WX → TS} {wsh : Ends → WX} (hs : X.stack = X.env :: X.outer) (hf : X.env.frame = some X.env.locals)
    (hb : ∀ (W : WX) (pn : List (Addr × Obj)) (xe : Value → Shared → Prop), L2N.Takes (X.tr pn xe) W → PassesOwn (model X.prog X.w) X.A X.env xe → PSs (X.tr pn xe) body (tb W)) (hh : HdlOk X (h₀ :: hds) wsh) :
    PS X (.Try body (h₀ :: hds) [] [] pos) (fun D σ H => tb (wsh D) D σ H) := by
  refine ⟨fun pins s σ H D I h => wpAny_Try_except ?_⟩
  have hok := I.ok
  have fr : X.A.frames = some (X.env :: X.outer) := by rw [hok.frames, hs]
  let away : Value → Shared → Prop := fun v t => wpAny (model X.prog X.w) X.A (noteFrame v X.env) (fun _ t2 => wpAny (model X.prog X.w) X.A (setFlight v none) (fun _ t3 => wpAny (model X.prog X.w) X.A (handleBy v X.env (h₀ :: hds)) (SP X pins D) X.xe t3) X.xe t2) X.xe t
  have tk : L2N.Takes (X.tr (X.pn ++ pins) away) (wsh D) := by
    rintro v t ⟨x1, B, s0, pins', σ', H', cls, d, rfl, I', nb, up, sky, na, os, ag, hw⟩
    have I0 : Inv X pins σ' H' s0 := I'.ofTry hok
    have sky : Sky B (X.env :: X.outer) x1 (L2N.Zn cls d) X.env.locals t.heap := by rw [← hs]; exact sky
    refine L2N.Sky.land L2N.Zn.steady fr hf sky fun g fg more => ?_
    exact hh pins σ' H' s0 { t with heap := g } B x1 cls d D I0 nb (up.trans more) fg na os ag hw
  refine wpAny_mono ((hb (wsh D) (X.pn ++ pins) away tk PassesOwn.looking).run [] s σ H D (I.toTry _) h) (fun f t q => ?_) (fun _ _ z => z)
  cases f with
  | next => obtain ⟨_, _, I', q⟩ := q; exact wpAny_execs_nil ⟨_, _, I'.ofTry hok, q⟩
  | brk => obtain ⟨_, _, I', q⟩ := q; exact ⟨_, _, I'.ofTry hok, q⟩
  | cont => obtain ⟨_, _, I', q⟩ := q; exact ⟨_, _, I'.ofTry hok, q⟩
  | ret v => obtain ⟨_, _, _, I', rv, q⟩ := q; exact ⟨_, _, _, I'.ofTry hok, rv, q⟩
end
/-! ### own exceptions with two fields, a text and an int -/
def sp_exc2 (C : Addr) (f g : Str) : Sp := fun vs H Q _ => ∃ (a : Addr) (z : Str) (i : Int), vs = [.ref a, .str z, .int i] ∧ z.length ≤ 1000 ∧ i.natAbs.log2 < 1920 ∧ H a = some (exo a C none) ∧
  ∀ dx, H dx = none → dx ≠ a → Q .non (L2.upd (L2.upd (L2.upd H dx (exd dx [(f, .str z)])) a (exo a C (some dx))) dx (exd dx [(g, .int i), (f, .str z)]))
theorem str_len (x y : Str) : (x ++ y).length = x.length + y.length := by
  show (x.cps ++ y.cps).size = x.cps.size + y.cps.size
  simp
theorem exc2_l1 {z : Str} (hz : z.length ≤ 1000) : z.length + (T [32]).length ≤ sizeLine := by
  have : (T [32]).length = 1 := rfl
  rw [this, sizeLine_eq]; omega
theorem exc2_l2 {z : Str} {i : Int} (hz : z.length ≤ 1000) (hi : i.natAbs.log2 < 1920) : (z ++ T [32]).length + (PySem.Str.ofString (toString i)).length ≤ sizeLine := by
  have h1 := int_text_len_1921 hi
  have h2 : (T [32]).length = 1 := rfl
  rw [str_len, h2, sizeLine_eq]; omega
theorem exc2_mk {C : Addr} {f g : Str} {z : Str} {i : Int} {H : Hp} {Q : XK} {E : XK} (hz : z.length ≤ 1000) (hi : i.natAbs.log2 < 1920) (h : ∀ d, H d = none → Q (.ref C) (some d) (L2.upd H d (.xd [(g, .int i), (f, .str z)]))) :
    [V.str z, V.int i].length ≤ 1000 ∧ ∀ a, H a = none → sp_exc2 C f g (.ref a :: ([V.str z, V.int i] ++ [])) (L2.upd H a (exo a C none))
      (fun v H2 => v = .non ∧ ∃ (d : Addr) (fs : List (Str × V)), H2 a = some (exo a C (some d)) ∧ H2 d = some (exd d fs) ∧ H d = none ∧ Q (.ref C) (some d) (L2.upd (del H2 a) d (.xd fs))) E := by
  refine ⟨(by show 2 ≤ 1000; decide), fun a ha => ⟨a, z, i, rfl, hz, hi, upd_same, fun dx h1 h2 => ⟨rfl, dx, _, by rw [upd_ne (Ne.symm h2)]; exact upd_same, upd_same, by rw [upd_ne h2] at h1; exact h1, ?_⟩⟩⟩
  have e : L2.upd (del (L2.upd (L2.upd (L2.upd (L2.upd H a (exo a C none)) dx (exd dx [(f, .str z)])) a (exo a C (some dx))) dx (exd dx [(g, .int i), (f, .str z)])) a) dx (.xd [(g, .int i), (f, .str z)]) = L2.upd H dx (.xd [(g, .int i), (f, .str z)]) := by
    funext b
    by_cases hb : b = dx
    · subst hb; rw [upd_same, upd_same]
    · rw [upd_ne hb, upd_ne hb]
      by_cases hba : b = a
      · subst hba; rw [del_same, ha]
      · rw [del_ne hba, upd_ne hb, upd_ne hba, upd_ne hb, upd_ne hba]
  rw [e]
  exact h dx (by rw [upd_ne h2] at h1; exact h1)
end LX
/-! a text of one sign times a number -/
namespace LX
open PySem PySem.Spec PyProof.Rows L2
theorem rep1 (c : Nat) : ∀ (n : Nat) (b : Array Nat), (List.replicate n #[c]).foldl (· ++ ·) b = b ++ (List.replicate n c).toArray
  | 0, b => by simp
  | n + 1, b => by
    rw [List.replicate_succ, List.foldl_cons, rep1 c n, List.replicate_succ]
    apply Array.toList_inj.mp
    simp
section
variable {X : Cx}
def rRepS : R2 := fun x y H Q => ∃ (c : Nat) (n : Int), x = .str (T [c]) ∧ y = .int n ∧ 2 ≤ n ∧ n ≤ 100000 ∧ Q (.str (T (List.replicate n.toNat c))) H
theorem op_repS : OpR X (binaryOp .Mult) rRepS := by
  intro pins s σ H x y v u Q I rx ry h
  obtain ⟨c, n, rfl, rfl, h1, h2, q⟩ := h
  obtain ⟨t, rfl⟩ := rx
  obtain ⟨t', rfl⟩ := ry
  have hlen : (T [c]).length = 1 := rfl
  refine PySem.P.mul_str ?_ ?_ ?_ ?_
  · rw [decide_eq_false (by omega), decide_eq_false (by omega)]; rfl
  · intro _ _
    rw [hlen]
    have : (2 ^ 63 - 1) / n ≥ 1 := Int.le_ediv_of_mul_le (by omega) (by omega)
    show ¬ (((1 : Nat) : Int) > (2 ^ 63 - 1) / n)
    omega
  · intro _ _
    rw [hlen]
    unfold Builtin.Str.tooLong
    exact decide_eq_false (by rw [sizeLine_eq]; omega)
  · rw [if_neg (by omega), hlen]
    have e1 : (n == 1 || (1 : Nat) == 0) = false := by
      have : (n == 1) = false := by simpa using (by omega : n ≠ 1)
      rw [this]; rfl
    rw [if_neg (by rw [e1]; exact Bool.false_ne_true)]
    have e2 : (⟨(List.replicate n.toNat (T [c]).cps).foldl (· ++ ·) #[]⟩ : Str) = T (List.replicate n.toNat c) := by
      show (⟨(List.replicate n.toNat #[c]).foldl (· ++ ·) #[]⟩ : Str) = _
      rw [rep1]
      simp
    rw [e2]
    exact ⟨by show (T (List.replicate n.toNat c)).length ≤ _; show (List.replicate n.toNat c).toArray.size ≤ _; rw [List.size_toArray, List.length_replicate, sizeLine_eq]; omega, .str (T (List.replicate n.toNat c)), H, I.tok _, ⟨_, rfl⟩, q⟩
end
end LX
/-! room for deep recursion: one step of depth a call (FnOk's own count takes three) -/
namespace LX
open PySem PySem.Spec PyProof.Rows L2 NdefX
structure Roomx (j : Nat) (A : Around) : Prop where
  hd : A.handled = none
  dp : A.depth + j + 5 < recursionLimit
  un : A.units + 5 * j + 200 < cLine
theorem Roomx.mono {i j : Nat} {A : Around} (r : Roomx j A) (h : i ≤ j) : Roomx i A := ⟨r.hd, by have := r.dp; omega, by have := r.un; omega⟩
theorem Roomx.deeper {j : Nat} {A : Around} (r : Roomx (j + 1) A) (env : Env) : Roomx j (A.deeper env) :=
  ⟨r.hd, by have := r.dp; show A.depth + 1 + j + 5 < _; omega, by have := r.un; show A.units + 3 + 5 * j + 200 < _; omega⟩
theorem Roomx.to {j k : Nat} {A : Around} (r : Roomx j A) (h : 4 * k ≤ j) : Room k A := ⟨r.hd, by have := r.dp; omega, by have := r.un; omega⟩
theorem Roomx.of {j k : Nat} {A : Around} (r : Room k A) (h : j ≤ 3 * k) : Roomx j A := ⟨r.hd, by have := r.dp; omega, by have := r.un; omega⟩
theorem Roomx.depth {j : Nat} {A : Around} (r : Roomx j A) : A.depth < recursionLimit := by have := r.dp; omega
structure FnOkx (P : Program) (w : World) (K : PySem.W.Frag) (mg : Str → Option Value) (base : Heap) (CX : CXT) (j : Nat) (f : Addr) (fd : FuncData) (ps : List Str) (sp : Sp) : Prop where
  len : ∀ vs H Q E, sp vs H Q E → vs.length = ps.length
  run : ∀ (A : Around) (outer : List Env) (s : Shared) (H : Hp) (args : Args) (us : List Value) (vs : List V) (Q : VK) (E : XK), Roomx j A → Env0 P w K mg base A outer s H → BindsTo s fd args (ps.zip us) → Vals vs us → sp vs H Q E →
    codeAny (model P w) A (.call (.ref f) args) (CR CX outer P w H s Q E) s
section
variable {P : Program} {w : World} {K : PySem.W.Frag} {mg : Str → Option Value} {base : Heap} {CX : CXT} {f : Addr} {fd : FuncData} {ps : List Str} {sp : Sp}
theorem FnOkx.mono {i j : Nat} (F : FnOkx P w K mg base CX i f fd ps sp) (h : i ≤ j) : FnOkx P w K mg base CX j f fd ps sp := ⟨F.len, fun A outer s H args us vs Q E hr => F.run A outer s H args us vs Q E (hr.mono h)⟩
theorem FnOkx.ok {j k : Nat} (F : FnOkx P w K mg base CX j f fd ps sp) (h : j ≤ 3 * k) : FnOk P w K mg base CX k f fd ps sp := ⟨F.len, fun A outer s H args us vs Q E hr => F.run A outer s H args us vs Q E (.of hr h)⟩
theorem FnOkx.of {j k : Nat} (F : FnOk P w K mg base CX k f fd ps sp) (h : 4 * k ≤ j) : FnOkx P w K mg base CX j f fd ps sp := ⟨F.len, fun A outer s H args us vs Q E hr => F.run A outer s H args us vs Q E (hr.to h)⟩
theorem FnOkx.no {j : Nat} (h : ∀ vs H Q E, ¬ sp vs H Q E) : FnOkx P w K mg base CX j f fd ps sp := ⟨fun _ _ _ _ z => (h _ _ _ _ z).elim, fun _ _ _ _ _ _ _ _ _ _ _ _ _ z => (h _ _ _ _ z).elim⟩
end
theorem fn_ofx {CX : CXT} {P : Program} {w : World} {K : PySem.W.Frag} {mg : Str → Option Value} {base : Heap} {k : Nat} {f : Addr} {name qual : Str} {params : Arguments} {body : List Stmt} {scope : Scope} {dV kV doc pm cdv ct oc : Value} {an od : Option Addr}
    {osl : Array (Option Value)} {N ps : List Str} {sp : Sp} (lk : K.lookup f = some ⟨oc, od, .func (PySem.W.fnOf name qual params body scope dV kV doc pm an cdv ct), osl⟩) (hcd : PySem.W.codeIn K cdv qual = true) (S : FnScope N ps scope)
    (len : ∀ vs H Q E, sp vs H Q E → vs.length = ps.length)
    (hbody : ∀ (A : Around) (outer : List Env) (s : Shared) (H : Hp) (vs : List V) (Q : VK) (E : XK), Roomx k (A.deeper (envOfC qual scope s.heap.objs.size f cdv)) → sp vs H Q E →
      ∃ t, PSs (cxOf CX P w K mg base N qual scope f cdv A outer s H E) body t ∧ t { nx := fun _ H' => Q .non H', rt := Q } (start N vs) H) :
    FnOkx P w K mg base CX (k + 1) f (PySem.W.fnOf name qual params body scope dV kV doc pm an cdv ct) ps sp := by
  refine ⟨len, fun A outer s H args us vs Q E hr e0 hb r hsp => ?_⟩
  have hl := len _ _ _ _ hsp
  have KX : K.In s.heap := e0.mod.kin.keeps fun b o e => (e0.bs b o e).1
  have lim : s.heap.NoLimit := e0.mod.nolimit.keeps fun b o e => (e0.bs b o e).1
  have hkind : ∀ y ∈ ps.zip us, scope.names.lookup y.1 = some .local ∨ (scope.names.lookup y.1 = some .cell ∧ ((cellsFrom (s.heap.objs.size + 1) scope.names []).lookup y.1).isSome = true) := fun ⟨n, v⟩ hy => by
    rcases S.par n (List.of_mem_zip hy).1 with q | q
    · exact .inl q
    · exact .inr ⟨q, PySem.W.cellsFrom_some _ _ _ (.inl q)⟩
  refine codeAny_call_function hr.depth (KX _ _ lk) rfl S.co S.gen rfl (PySem.W.codeRec_of KX hcd) (hb _ _ _ _ ?_)
  refine wpAny_newFunctionEnv_cells S.kind hkind fun env he s1 x => ?_
  subst he
  refine ⟨lim.keeps x.toInCall.keep, codeAny_func ?_⟩
  obtain ⟨t, ht, hq⟩ := hbody A outer s H vs Q E (hr.deeper _) hsp
  have I : Inv (cxOf CX P w K mg base N qual scope f cdv A outer s H E) [] (start N vs) H s1 := inv_start S hr.hd e0 hl r x
  refine wpAny_mono (ht.run [] s1 (start N vs) H _ I hq) (fun fl s' hs => ?_) fun e s' hs => hs
  have fin : ∀ {σ' : L2.St} {H' : Hp} {v : V} {u : Value}, Inv (cxOf CX P w K mg base N qual scope f cdv A outer s H E) [] σ' H' s' → RelV v u → Q v H' → CE outer P w H s Q u s' :=
    fun {σ' H' v u} J rv q => ⟨v, H', J.os, J.bare, J.base, J.hok, rv, q⟩
  cases fl with
  | ret u =>
    obtain ⟨v, σ', H', J, rv, q⟩ := hs
    exact fin J rv q
  | next =>
    obtain ⟨σ', H', J, q⟩ := hs
    exact fin (v := V.non) (u := Value.none) J rfl q
  | brk =>
    obtain ⟨_, _, _, q⟩ := hs
    exact False.elim q
  | cont =>
    obtain ⟨_, _, _, q⟩ := hs
    exact False.elim q
theorem Fun.okx {P : Program} {w : World} {K : PySem.W.Frag} {mg : Str → Option Value} {base : Heap} {x qual : Str} {st : Stmt} {f : Addr} {fd : FuncData} {N ps : List Str} {k : Nat} {sp : Sp} (F : Fun K x qual st f fd) (S : FnScope N ps (defScope st)) (len : ∀ vs H Q E, sp vs H Q E → vs.length = ps.length)
    (hbody : ∀ (cdv : Value) (A : Around) (outer : List Env) (s : Shared) (H : Hp) (vs : List V) (Q : VK) (E : XK), Roomx k (A.deeper (envOfC qual (defScope st) s.heap.objs.size f cdv)) → sp vs H Q E →
      ∃ t, PSs (cxOf CX0 P w K mg base N qual (defScope st) f cdv A outer s H E).nox (defBody st) t ∧ t { nx := fun _ H' => Q .non H', rt := Q } (start N vs) H) : FnOkx P w K mg base CX0 (k + 1) f fd ps sp := by
  obtain ⟨oc, od, kV, doc, pm, an, cdv, ct, osl, rfl, lk, hcd⟩ := F.ex
  refine fn_ofx lk hcd S len fun A outer s H vs Q E hr hsp => ?_
  obtain ⟨t, h, q⟩ := hbody cdv A outer s H vs Q E hr hsp
  exact ⟨t, h.nox, q⟩
theorem Fun.okxN {P : Program} {w : World} {K : PySem.W.Frag} {mg : Str → Option Value} {base : Heap} {CX : CXT} {x qual : Str} {st : Stmt} {f : Addr} {fd : FuncData} {N ps : List Str} {k : Nat} {sp : Sp} (F : Fun K x qual st f fd) (S : FnScope N ps (defScope st)) (len : ∀ vs H Q E, sp vs H Q E → vs.length = ps.length)
    (hbody : ∀ (cdv : Value) (A : Around) (outer : List Env) (s : Shared) (H : Hp) (vs : List V) (Q : VK) (E : XK), Roomx k (A.deeper (envOfC qual (defScope st) s.heap.objs.size f cdv)) → sp vs H Q E →
      ∃ t, PSs (cxOf CX P w K mg base N qual (defScope st) f cdv A outer s H E) (defBody st) t ∧ t { nx := fun _ H' => Q .non H', rt := Q } (start N vs) H) : FnOkx P w K mg base CX (k + 1) f fd ps sp := by
  obtain ⟨oc, od, kV, doc, pm, an, cdv, ct, osl, rfl, lk, hcd⟩ := F.ex
  exact fn_ofx lk hcd S len fun A outer s H vs Q E hr hsp => hbody cdv A outer s H vs Q E hr hsp
section
variable {X : Cx} {CX : CXT} {k : Nat} {f C : Addr} {fd : FuncData} {ps : List Str} {sp : Sp} {dvs : List V} {ds : List Value} {E : XK} {x m : Str} {p pos apos : Pos} {e o : Expr} {es : List Expr} {ta : TE} {t : TA}
theorem run_fnx {pins : List (Addr × Obj)} {σ : L2.St} {H : Hp} {s : Shared} {Q : VK} {us : List Value} {vs : List V} (F : FnOkx X.prog X.w X.K X.mg X.base CX k f fd ps sp) (hr : Roomx k X.A) (hb : Binds X.K fd ps ds) (hd : Vals dvs ds) (hx : Passes CX X E)
    (I : Inv X pins σ H s) (r : Vals vs us) (h : sp (vs ++ dvs) H Q E) : wpAny (model X.prog X.w) X.A (call (.ref f) us) (EP X pins σ Q) X.xe s := by
  have r2 : Vals (vs ++ dvs) (us ++ ds) := r.append hd
  have hl : (us ++ ds).length = ps.length := by rw [← r2.length]; exact F.len _ _ _ _ h
  refine wpAny_call (codeAny_mono (F.run X.A X.stack s H ⟨us, []⟩ (us ++ ds) (vs ++ dvs) Q E hr I.env0 (hb s us I.kIn hl) r2 h) fun r s' hq => ?_)
  cases r with
  | error e => exact hx pins σ H s e s' I hq
  | ok fl =>
    cases fl with
    | ret u => exact I.after hq
    | next => exact False.elim hq
    | brk => exact False.elim hq
    | cont => exact False.elim hq
theorem pe_callx (F : FnOkx X.prog X.w X.K X.mg X.base CX k f fd ps sp) (hr : Roomx k X.A) (hg : Gl X x) (hm : X.mg x = some (.ref f)) (hk : PySem.W.keepIn X.K (.ref f) = true) (hb : Binds X.K fd ps ds) (hd : Vals dvs ds) (hx : Passes CX X E)
    (ha : PA X (e :: es) t) (hdb : (x == ("__debug__" : Str)) = false := by decide) (he : starEach (e :: es) X.env = (false, eval e X.env) :: starEach es X.env := by rfl) (hpl : (backTo pos (starEach es X.env)).any (·.1) = false := by rfl) :
    PE X (.Call (.Name x p) (e :: es) [] pos) (tCall sp dvs E t) := by
  refine ⟨fun pins s σ H Q I h => ?_⟩
  refine wpAny_Call_Name_kw (ld_glob I hg hm ?_ hdb)
  refine PySem.W.callWith_K (h₀ := X.base) I.ok.mod.kin hk (thn (ha.run pos pins s σ H _ I h) fun us s1 ⟨vs, H1, I1, r, q⟩ => ⟨I1.kIn, ?_⟩) he hpl
  exact run_fnx F hr hb hd hx I1 r q
end
end LX
/-! repr of data: wants the room of the law's own call (no repr is under way there) -/
namespace LX
open PySem PySem.Spec PyProof.Rows L2 NdefX
def rRepr (K : PySem.W.Frag) : List V → Hp → VK → Prop := fun vs H Q => ∃ (a : Addr) (d : PyData), vs = [.ref a] ∧ Dp K H (.ref a) d ∧ d.showable = true ∧ d.hasDict = false ∧ d.depth ≤ 60 ∧ d.shown.length ≤ sizeLine ∧ Q (.str d.shown) H
theorem call_reprD {X : Cx} (hg : X.A.guards = some []) (hu : X.A.units + 64 < cLine) : CallR X (.builtin "repr") (rRepr X.K) := by
  intro pins s σ H vs us Q I r h
  obtain ⟨a, d, rfl, hd, h1, h2, h3, h4, q⟩ := h
  rw [Vals.ref1 r]
  obtain ⟨as, rd⟩ := Dp.reads I _ _ _ hd (show RelV (.ref a) (.ref a) from rfl)
  exact repr_of_reads' rd h1 (PyData.noDict_hsm h2) hg (by omega) (fun _ _ e => e) (fun h' u tk hk => ⟨.str d.shown, H, I.kept hk, ⟨_, rfl⟩, q⟩) h4
/-- a promise that is kept where G holds of what stands around -/
structure FnG (G : Around → Prop) (P : Program) (w : World) (K : PySem.W.Frag) (mg : Str → Option Value) (base : Heap) (CX : CXT) (k : Nat) (f : Addr) (fd : FuncData) (ps : List Str) (sp : Sp) : Prop where
  len : ∀ vs H Q E, sp vs H Q E → vs.length = ps.length
  run : ∀ (A : Around) (outer : List Env) (s : Shared) (H : Hp) (args : Args) (us : List Value) (vs : List V) (Q : VK) (E : XK), G A → Room k A → Env0 P w K mg base A outer s H → BindsTo s fd args (ps.zip us) → Vals vs us → sp vs H Q E →
    codeAny (model P w) A (.call (.ref f) args) (CR CX outer P w H s Q E) s
theorem fn_ofG {G : Around → Prop} {P : Program} {w : World} {K : PySem.W.Frag} {mg : Str → Option Value} {base : Heap} {x qual : Str} {st : Stmt} {f : Addr} {fd : FuncData} {N ps : List Str} {k : Nat} {sp : Sp} (F : Fun K x qual st f fd) (S : FnScope N ps (defScope st)) (len : ∀ vs H Q E, sp vs H Q E → vs.length = ps.length)
    (hbody : ∀ (cdv : Value) (A : Around) (outer : List Env) (s : Shared) (H : Hp) (vs : List V) (Q : VK) (E : XK), G A → Room k (A.deeper (envOfC qual (defScope st) s.heap.objs.size f cdv)) → sp vs H Q E →
      ∃ t, PSs (cxOf CX0 P w K mg base N qual (defScope st) f cdv A outer s H E).nox (defBody st) t ∧ t { nx := fun _ H' => Q .non H', rt := Q } (start N vs) H) : FnG G P w K mg base CX0 (k + 1) f fd ps sp := by
  obtain ⟨oc, od, kV, doc, pm, an, cdv, ct, osl, rfl, lk, hcd⟩ := F.ex
  refine ⟨len, fun A outer s H args us vs Q E hG hr e0 hb r hsp => ?_⟩
  have hl := len _ _ _ _ hsp
  have kx : K.In s.heap := e0.mod.kin.keeps fun b o z => (e0.bs b o z).1
  have lim : s.heap.NoLimit := e0.mod.nolimit.keeps fun b o z => (e0.bs b o z).1
  refine codeAny_call_function (by have := hr.dp; omega) (kx _ _ lk) rfl S.co S.gen rfl (PySem.W.codeRec_of kx hcd) (hb _ _ _ _ ?_)
  refine wpAny_newFunctionEnv_cells S.kind (fun ⟨n, v⟩ hy => ?_) fun env he s1 x => ?_
  · rcases S.par n (List.of_mem_zip hy).1 with q | q
    · exact .inl q
    · exact .inr ⟨q, PySem.W.cellsFrom_some _ _ _ (.inl q)⟩
  subst he
  refine ⟨lim.keeps x.toInCall.keep, codeAny_func ?_⟩
  obtain ⟨t, ht, hq⟩ := hbody cdv A outer s H vs Q E hG (hr.deeper _) hsp
  have I : Inv (cxOf CX0 P w K mg base N qual (defScope st) f cdv A outer s H E) [] (start N vs) H s1 := inv_start S hr.hd e0 hl r x
  refine wpAny_mono (ht.nox.run [] s1 (start N vs) H _ I hq) (fun fl s' hs => ?_) fun e s' hs => hs
  cases fl with
  | ret u =>
    obtain ⟨v, σ', H', J, rv, q⟩ := hs
    exact ⟨v, H', J.os, J.bare, J.base, J.hok, rv, q⟩
  | next =>
    obtain ⟨σ', H', J, q⟩ := hs
    exact ⟨.non, H', J.os, J.bare, J.base, J.hok, rfl, q⟩
  | brk =>
    obtain ⟨_, _, _, q⟩ := hs
    exact q.elim
  | cont =>
    obtain ⟨_, _, _, q⟩ := hs
    exact q.elim
def GNone (A : Around) : Prop := A.guards = some []
/-- the law's own call, where its promise wants GNone -/
theorem law_callG {P : Program} {w : World} {K : PySem.W.Frag} {mg mb : Str → Option Value} {k : Nat} {fa a : Addr} {fd : FuncData} {x : Str} {sp : Sp} {s1 : Shared} {vs : List Value} {ns : List Int}
    (kx : K.In s1.heap) (g1 : s1.heap.Ns mainGlobals mg) (g2 : s1.heap.Ns builtinsNs mb) (g3 : ∀ x : Str, x ≠ "__name__" → mb x = bootBuiltins x) (g4 : s1.heap.NoLimit) (g5 : s1.gens = #[])
    (ha : s1.heap.get? a = some { cls := .type "list", data := .seq vs.toArray }) (hi : IntsAre vs ns) (hl : ns.length ≤ sizeLine) (hr : Room k callerA)
    (F : ∀ base : Heap, K.In base → base.Ns mainGlobals mg → FnG GNone P w K mg base CX0 k fa fd [x] sp) (hbind : ∀ (s : Shared) (u : Value), BindsTo s fd ⟨[u], []⟩ [(x, u)])
    (hsp : ∀ T : Hp, Only T → SqL K T a (ns.map V.int) → sp [.ref a] T (fun v _ => v = .bl true) fun _ _ _ => False) :
    codeAny (model P w) callerA (.call (.ref fa) ⟨[.ref a], []⟩) (fun r s' => r = .ok (.ret (.bool true)) ∧ OldK s1.heap s'.heap ∧ s'.os = s1.os ∧ AllBare s'.gens) s1 := by
  have rv := vals_ints hi
  have lenV := hi.length
  have main : ∀ T : Hp, Only T → SqL K T a (ns.map V.int) → HOk P w T s1.heap → (∀ b, T b ≠ none → b = a) → (T a ≠ none → K.lookup a = none) →
      codeAny (model P w) callerA (.call (.ref fa) ⟨[.ref a], []⟩) (fun r s' => r = .ok (.ret (.bool true)) ∧ OldK s1.heap s'.heap ∧ s'.os = s1.os ∧ AllBare s'.gens) s1 := by
    intro T hO hS hok hA hK
    have only : ∀ {b : Addr} {o : Obj}, s1.heap.get? b = some o → (b = a → False) → (hidT s1.heap T).get? b = some o := fun {b o} e n => hidT_get e (by
      cases q : T b with
      | none => rfl
      | some u => exact (n (hA b (by rw [q]; simp))).elim)
    have notdict : ∀ {b : Addr} {o : Obj} {es : Array DictEntry} {ep : Nat}, s1.heap.get? b = some o → o.data = .dict es ep → b = a → False := fun {b o es ep} e d z => by
      subst z
      rw [ha] at e
      cases e
      have d' : Data.seq vs.toArray _ = Data.dict es ep := d
      cases d'
    have ns' : ∀ {b : Addr} {m : Str → Option Value}, s1.heap.Ns b m → (hidT s1.heap T).Ns b m := fun {b m} ⟨o, es, ep, e, d, r⟩ => ⟨o, es, ep, only e (notdict e d), d, r⟩
    have kb : K.In (hidT s1.heap T) := fun b o e => hidT_get (kx b o e) (by
      cases q : T b with
      | none => rfl
      | some u =>
        have z := hA b (by rw [q]; simp)
        subst z
        rw [hK (by rw [q]; simp)] at e
        cases e)
    have hM : Mod K mg (hidT s1.heap T) := ⟨kb, ns' g1, ⟨mb, ns' g2, g3⟩, let ⟨mc, z1, z2⟩ := g4; ⟨mc, ns' z1, z2⟩⟩
    have e0 : Env0 P w K mg (hidT s1.heap T) callerA [] s1 T := ⟨rfl, hM, fun b o e => of_hidT e, Nat.le_of_eq (hidT_size _ _), trivial, fun b hb => absurd (show b ∈ ([] : List Addr) from hb) (by simp), hok, .of_eq g5⟩
    refine codeAny_mono ((F _ kb (ns' g1)).run callerA [] s1 T ⟨[.ref a], []⟩ [.ref a] [.ref a] _ _ rfl hr e0 (hbind s1 (.ref a)) (.cons rfl .nil) (hsp T hO hS)) fun r s' h => ?_
    cases r with
    | error e => exact False.elim h
    | ok fl =>
      cases fl with
      | next => exact h.elim
      | brk => exact h.elim
      | cont => exact h.elim
      | ret u =>
        obtain ⟨v, T', os, bare, un, hok', r', q⟩ := h
        obtain rfl : v = .bl true := q
        obtain rfl : u = Value.bool true := r'
        refine ⟨rfl, OldK.of_keep fun b o e => ?_, os, bare⟩
        rcases hO b with z | ⟨ob, xs, z⟩
        · exact un.keep b o e z (fun m => absurd (show b ∈ ([] : List Addr) from m) (by simp)) (by simp)
        · have f1 := (hok b _ z).1
          have f2 := (hok' b _ (un.frzs b ob _ z)).1
          rw [e] at f1
          cases f1
          exact f2
  cases hk : K.lookup a with
  | some o =>
    have e := kx a o hk
    rw [ha] at e
    cases e
    exact main (fun _ => none) (fun _ => .inl rfl) (.inr ⟨_, vs.toArray, _, hk, rfl, rfl, rfl, by rw [List.size_toArray, lenV]; exact hl, by simpa using rv⟩) (fun b u z => by cases (show (none : Option HO) = some u from z)) (fun b z => absurd rfl z) fun z => absurd rfl z
  | none =>
    have off : ∀ b, b ≠ a → (if b = a then some (HO.frz { cls := .type "list", data := .seq vs.toArray } (.lst (ns.map V.int))) else none) = none := fun b hb => if_neg hb
    refine main (fun b => if b = a then some (.frz { cls := .type "list", data := .seq vs.toArray } (.lst (ns.map V.int))) else none) (fun b => ?_) (.inl (.inr ⟨{ cls := .type "list", data := .seq vs.toArray }, if_pos rfl⟩)) (fun b u z => ?_) (fun b z => ?_) fun _ => hk
    · by_cases hb : b = a
      · exact .inr ⟨_, _, if_pos hb⟩
      · exact .inl (off b hb)
    · by_cases hb : b = a
      · have z' := (if_pos hb).symm.trans z
        cases z'
        subst hb
        exact ⟨ha, by rw [List.length_map]; exact hl, vs, _, rv, ha⟩
      · have z' := (off b hb).symm.trans z
        cases z'
    · by_cases hb : b = a
      · exact hb
      · exact absurd (off b hb) z
theorem walk_ofG {l : PySem.W.OpenLaw} {n k : Nat} {q : Program} {loose : List Str} {XP : (Str → Option Value) → Heap → Prop} {YP : World → Heap → Prop} {d : DefRec} {K : Params → PySem.W.Frag} {sp : World → Sp} {x : Str}
    (hn : l.most = some n) (hn2 : n ≤ sizeLine) (hdf : d.params.defaults = []) (hr : Room k callerA) (hY : ∀ (w : World) (h : Heap), YP w h → (K w.params).In h)
    (F : ∀ (w : World) (mg : Str → Option Value) (fa : Addr) (h : Heap), (K w.params).In h → h.Ns mainGlobals mg → mg d.name = some (.ref fa) →
      ∃ fd : FuncData, (∀ (s : Shared) (u : Value), BindsTo s fd ⟨[u], []⟩ [(x, u)]) ∧ ∀ base : Heap, (K w.params).In base → base.Ns mainGlobals mg → FnG GNone l.prog w (K w.params) mg base CX0 k fa fd [x] (sp w))
    (hsp : ∀ (w : World) (T : Hp) (a : Addr) (ns : List Int), ns.length ≤ n → Only T → SqL (K w.params) T a (ns.map V.int) → sp w [.ref a] T (fun v _ => v = .bl true) fun _ _ _ => False) :
    PySem.W.WalkO q loose XP YP l.row.toRowW d [] (fun f vs => PySem.call f vs) := by
  refine Att.attach_call hn hdf fun w s0 s1 mg mb fa o pm cd doc a vs ns G Y ho hd hcd hmg hobj hints hlen hg => ?_
  obtain ⟨fd, hb, hF⟩ := F w mg fa _ (hY w _ Y) G.T.g hmg
  exact law_callG (hY w _ Y) G.T.g G.T.b G.T.builtins G.T.nolimit hg hobj hints (Nat.le_trans hlen hn2) hr hF hb fun T hO hS => hsp w T a ns hlen hO hS
end LX
/-! len(set(xs)) of a list of texts: how many different ones there are -/
namespace LX
open PySem PySem.Spec PyProof.Rows L2 NdefX
def dcn (xs : List Str) : Nat → Nat
  | 0 => 0
  | i + 1 => if (xs.take i).any (· == xs.getD i Str.empty) = true then dcn xs i else dcn xs i + 1
theorem dcn_le (xs : List Str) : ∀ i, dcn xs i ≤ i
  | 0 => Nat.le_refl _
  | i + 1 => by
    have := dcn_le xs i
    unfold dcn
    split <;> omega
theorem nodup_snoc {α : Type} {l : List α} {a : α} : (l ++ [a]).Nodup ↔ l.Nodup ∧ a ∉ l := by
  constructor
  · intro h
    obtain ⟨h1, _, h3⟩ := List.nodup_append.mp h
    exact ⟨h1, fun m => h3 a m a (by simp) rfl⟩
  · rintro ⟨h1, h2⟩
    refine List.nodup_append.mpr ⟨h1, by simp, fun x hx y hy e => ?_⟩
    rw [List.mem_singleton] at hy
    subst hy e
    exact h2 hx
theorem dcn_eq (xs : List Str) : ∀ i, i ≤ xs.length → (dcn xs i = i ↔ (xs.take i).Nodup)
  | 0, _ => by simp [dcn]
  | i + 1, h => by
    have ih := dcn_eq xs i (by omega)
    have hl := dcn_le xs i
    obtain ⟨x, hx⟩ : ∃ x, xs[i]? = some x := ⟨_, List.getElem?_eq_getElem (by omega)⟩
    have hg : xs.getD i Str.empty = x := by rw [List.getD_eq_getElem?_getD, hx]; rfl
    have ht : xs.take (i + 1) = xs.take i ++ [x] := by rw [List.take_succ, hx]; rfl
    have hm : (xs.take i).any (· == x) = true ↔ x ∈ xs.take i := by
      rw [List.any_eq_true]
      constructor
      · rintro ⟨y, hy, e⟩
        rw [beq_iff_eq] at e
        exact e ▸ hy
      · exact fun h => ⟨x, h, beq_self_eq_true _⟩
    unfold dcn
    rw [hg, ht, nodup_snoc]
    by_cases hc : (xs.take i).any (· == x) = true
    · rw [if_pos hc]
      exact ⟨fun e => by omega, fun ⟨_, n⟩ => absurd (hm.mp hc) n⟩
    · rw [if_neg hc]
      constructor
      · intro e
        exact ⟨ih.mp (by omega), fun m => hc (hm.mpr m)⟩
      · rintro ⟨n, _⟩
        rw [ih.mpr n]
theorem dcn_lt (xs : List Str) : dcn xs xs.length < xs.length ↔ ¬ xs.Nodup := by
  have h1 := dcn_le xs xs.length
  have h2 := dcn_eq xs xs.length (Nat.le_refl _)
  rw [List.take_length] at h2
  constructor
  · intro h n
    have := h2.mpr n
    omega
  · intro h
    rcases Nat.lt_or_ge (dcn xs xs.length) xs.length with c | c
    · exact c
    · exact absurd (h2.mp (by omega)) h
section
variable {prog : Program} {w : World} {A : Around} {R : Result → Shared → Prop} {I : Addr} {fp wr : List Addr} {G : Array GenState → Array GenState → Prop} {n : Nat} {P : Nat → Value → Prop} {St : Nat → Shared → Prop}
theorem set_fill (W : WalksS prog w A.in1 I fp wr G n P St) (S : Addr) (hSf : S ∉ fp) (xs : List Str) (hsz : xs.length = n) (hb : n + 1 < scanBound)
    (hval : ∀ i v, P i v → ∃ t, v = .str (xs.getD i Str.empty) t) :
    ∀ (k i : Nat) (z : Shared), n - i = k → i ≤ n → St i z → z.heap.SetOf (PySem.strKind prog w) S (fun y => (xs.take i).any (· == y)) (dcn xs i) →
      (∀ z', Moved (S :: wr) G z z' → z'.heap.SetOf (PySem.strKind prog w) S (fun y => (xs.take n).any (· == y)) (dcn xs n) → R (.ok (.ret .none)) z') →
      codeAny (model prog w) A (.builtin "set.update.loop" ⟨[.ref S, .ref I], []⟩) R z := by
  have up : ∀ b ∈ wr, b ∈ S :: wr := fun b m => List.mem_cons_of_mem _ m
  have hSw : S ∉ wr := fun m => hSf (W.sub _ m)
  intro k
  induction k with
  | zero =>
    intro i z hk hi hst hS hR
    obtain rfl : i = n := by omega
    refine codeAny_builtin PyProof.Rows.F.entry_set_update_loop ?_
    rw [Around.under_plainId PyProof.Rows.F.plain_set_update_loop _]
    refine wpAny_bind (m := pyNext (.ref I)) (W.done z _ _ hst fun z' hm => ?_)
    show wpAny _ A.in1 (ret Value.none) _ _ z'
    exact wpAny_pure (hR z' (hm.mono up) (let ⟨o, es, ep, t, ho, more⟩ := hS; ⟨o, es, ep, t, hm.heap S _ hSw ho, more⟩))
  | succ k ih =>
    intro i z hk hi hst hS hR
    have hlt : i < n := by omega
    refine codeAny_builtin PyProof.Rows.F.entry_set_update_loop ?_
    rw [Around.under_plainId PyProof.Rows.F.plain_set_update_loop _]
    refine wpAny_bind (m := pyNext (.ref I)) (W.item i z _ _ hlt hst fun v z' hP hst' hm => ?_)
    obtain ⟨t, rfl⟩ := hval i v hP
    have hS' : z'.heap.SetOf (PySem.strKind prog w) S (fun y => (xs.take i).any (· == y)) (dcn xs i) := let ⟨o, es, ep, tb, ho, more⟩ := hS; ⟨o, es, ep, tb, hm.heap S _ hSw ho, more⟩
    refine wpAny_bind (m := holding [Value.str (xs.getD i Str.empty) t] (setAdd S (.str (xs.getD i Str.empty) t))) (wpAny_holding ?_)
    unfold setAdd
    refine wpAny_holding ?_
    refine wpAny_bind ((PySem.strKind prog w).pyHash (k := xs.getD i Str.empty) (strKind_is _ _ _ _) ?_)
    refine wpAny_setAddHashed_of (knd := PySem.strKind prog w) (s := { z' with toks := z'.toks + 1 }) (strKind_is _ _ _ _) rfl hS' (by have := dcn_le xs i; omega) fun h' hsb hS2 => ?_
    have hSi : h'.SetOf (PySem.strKind prog w) S (fun y => (xs.take (i + 1)).any (· == y)) (dcn xs (i + 1)) := by
      obtain ⟨x, hx⟩ : ∃ x, xs[i]? = some x := ⟨_, List.getElem?_eq_getElem (by omega)⟩
      have hg : xs.getD i Str.empty = x := by rw [List.getD_eq_getElem?_getD, hx]; rfl
      refine SetOf_congr hS2 (fun y => ?_) rfl
      rw [List.take_succ, hx, hg, List.any_append]
      congr 1
      show decide (y = x) = (x == y || false)
      rw [Bool.or_false]
      by_cases e : y = x
      · subst e; simp
      · rw [decide_eq_false e]
        exact (beq_eq_false_iff_ne.mpr fun q => e q.symm).symm
    refine wpAny_pure ⟨plainId_quiet PyProof.Rows.F.plain_set_update_loop _, ih (i + 1) _ (by omega) hlt (W.frame _ z' _ _ hst' (Nat.le_succ _) fun b hb o e => ?_) hSi fun z2 hm2 hS3 => ?_⟩
    · rw [hsb.2 b (fun q : b = S => hSf (q ▸ hb))]
      exact e
    · refine hR z2 (Moved.trans W.gtrans ((hm.mono up).then_heap (Nat.le_succ _) fun b o hb e => ?_) hm2) hS3
      rw [hsb.2 b (fun q : b = S => hb (by rw [q]; exact List.mem_cons_self))]
      exact e
end
section
variable {prog : Program} {w : World} {A : Around} {E : Value → Shared → Prop} {s : Shared}
set_option maxHeartbeats 3200000 in
theorem call_set_strs {l : Addr} {items : Array Value} {xs : List Str} {Q : Value → Shared → Prop} (hh : A.handled = none) (hl : s.heap.IsList l items) (hi : StrsAre items.toList xs) (hb : xs.length + 1 < scanBound)
    (hQ : ∀ (h' : Heap) (tk : Nat), h'.SetOf (PySem.strKind prog w) s.heap.objs.size (fun y => (xs.take items.size).any (· == y)) (dcn xs items.size) →
      (∀ b o, b < s.heap.objs.size → s.heap.get? b = some o → h'.get? b = some o) → Q (.ref s.heap.objs.size) { s with heap := h', toks := tk }) :
    wpAny (model prog w) A (call (.type "set") [.ref l]) Q E s := by
  obtain ⟨c, tl, hmro⟩ := F.called_set.mro
  have z1 := F.called_set.made
  have z2 := F.called_set.sub
  refine wpAny_call (codeAny_of_tree (wpAny_pure ⟨Code.quiet_builtin _ (by decide +kernel), codeAny_builtin PySem.F.entry_type_call ?_⟩ : wpAny _ _ (callAny (.type "set") _) _ _ _))
  rw [Around.under_plain (weight_type_call_type "set" [.ref l] []) rfl]
  have z3 := F.called_set.notType
  have z4 := F.called_set.canCreate
  have z5 := F.typeCall_set_1 (.ref l)
  repeat (any_goals (first | assumption | wp_step))
  refine codeAny_mono (code_set_new_1 (.ref l) (E := E) (Q₁ := fun obj z => ∃ led : Bool, obj = .ref s.heap.objs.size ∧ z = { s with heap := s.heap.push { cls := .type "set", dict := none, data := .set #[] 0 (.fresh 0 0 led) } }) fun led => ⟨led, rfl, rfl⟩) fun r z hr => ?_
  cases r with
  | error e => exact hr
  | ok fl =>
    cases fl with
    | ret obj =>
      obtain ⟨led, rfl, rfl⟩ := hr
      have hS : (s.heap.push { cls := .type "set", dict := none, data := .set #[] 0 (.fresh 0 0 led) }).get? s.heap.objs.size = some { cls := .type "set", dict := none, data := .set #[] 0 (.fresh 0 0 led) } := Heap.get?_push_size _ rfl
      have hT : Shared.TypeIs { s with heap := s.heap.push { cls := .type "set", dict := none, data := .set #[] 0 (.fresh 0 0 led) } } (.ref s.heap.objs.size) "set" := ⟨_, hS, rfl⟩
      have z6 := F.called_set.init.lookup
      have z7 := F.called_set.init.bind (.ref s.heap.objs.size)
      repeat (any_goals (first | assumption | wp_step))
      refine codeAny_mono (codeAny_call_builtin (R := wants (fun r z => r = .none ∧ ∃ h' tk, z = { s with heap := h', toks := tk } ∧ h'.SetOf (PySem.strKind prog w) s.heap.objs.size (fun y => (xs.take items.size).any (· == y)) (dcn xs items.size) ∧
          (∀ b o, b < s.heap.objs.size → s.heap.get? b = some o → h'.get? b = some o)) E) F.called_set.init.plain F.entry_set_init (check_set_init_1 hT ?_)) fun r2 z hr2 => ?_
      · obtain ⟨⟨ocls, odict, odata, oslots⟩, hol, hcl, nl, hdl⟩ := hl
        simp only at hcl hdl
        subst hcl hdl
        have hol' : (s.heap.push { cls := .type "set", dict := none, data := .set #[] 0 (.fresh 0 0 led) }).get? l = some { cls := .type "list", dict := odict, data := .seq items nl, slots := oslots } := Heap.get?_push_of_some _ hol
        have y1 := F.sub_list_set
        have y2 := F.sub_list_frozenset
        have y3 : (Value.type "list" == Value.type "dict") = false := by decide
        have hl1 : (s.heap.push { cls := .type "set", dict := none, data := .set #[] 0 (.fresh 0 0 led) }).IsList l items := ⟨_, hol', rfl, nl, rfl⟩
        unfold Builtin.«set.__init__» noKeywords Builtin.Frozenset.updateFrom
        generalize hPI : pyIter = PI
        wp_walk
        subst hPI
        refine wpAny_pyIter_list hl1 (wpAny_bind (wpAny_runValue ?_))
        have hlS : l < s.heap.objs.size := Heap.lt_size hol
        have hneI : l ≠ (s.heap.push { cls := .type "set", dict := none, data := .set #[] 0 (.fresh 0 0 led) }).objs.size := by rw [Heap.size_push]; exact Nat.ne_of_lt (Nat.lt_succ_of_lt hlS)
        have hsz : xs.length = items.size := by rw [← StrsAre.len_eq hi, Array.length_toList]
        refine set_fill ((Walks.list (by simp [hh]) _ l hneI items).toS) s.heap.objs.size (by
            rw [Heap.size_push]
            simp only [List.mem_cons, List.not_mem_nil, or_false, not_or]
            exact ⟨Nat.ne_of_lt (Nat.lt_succ_self _), Nat.ne_of_gt hlS⟩) xs hsz (by omega) (fun i v hv => SS.strs_at hi i v (by rw [Array.getElem?_toList]; exact hv)) (items.size - 0) 0 _ (by omega) (Nat.zero_le _)
          ⟨⟨_, Heap.get?_push_size _ rfl, rfl, rfl⟩, (hl1.push _)⟩ ?first ?last
        case first =>
          exact SetOf_congr ((setObjOf_fresh (knd := PySem.strKind prog w) led).setOf (Heap.get?_push_of_some _ hS) (by unfold scanBound; omega)) (fun _ => rfl) rfl
        case last =>
          rintro ⟨h', g', d', tk', os'⟩ hm hS'
          obtain rfl : g' = s.gens := hm.gens
          obtain rfl : d' = s.drawn := hm.drawn
          obtain rfl : os' = s.os := hm.os
          show wpAny _ _ _ _ _ _
          refine wpAny_pure ?_
          show wpAny _ _ (ret Value.none) _ _ _
          refine wpAny_pure ⟨rfl, h', tk', rfl, hS', fun b o hb e => ?_⟩
          refine hm.heap b o ?_ (Heap.get?_push_of_some _ (Heap.get?_push_of_some _ e))
          rw [Heap.size_push]
          simp only [List.mem_cons, List.not_mem_nil, or_false, not_or]
          exact ⟨Nat.ne_of_lt hb, Nat.ne_of_lt (Nat.lt_succ_of_lt hb)⟩
      · cases r2 with
        | error e => exact hr2
        | ok fl2 =>
          cases fl2 with
          | ret r =>
            obtain ⟨rfl, h', tk, rfl, hS', hk'⟩ := hr2
            repeat (any_goals (first | assumption | wp_step))
            exact hQ _ _ hS' hk'
          | _ => exact hr2.elim
    | _ => exact hr.elim
end
def rLset (K : PySem.W.Frag) (x : V) (H1 : Hp) (Q : VK) : Prop := ∃ l, ∃ xs : List Str, x = .ref l ∧ SqL K H1 l (xs.map V.str) ∧ xs.length ≤ 1000 ∧ Q (.int (dcn xs xs.length : Nat)) H1
def tLset (K : PySem.W.Frag) (ta : TE) : TE := fun σ H Q => ta σ H fun x H1 => rLset K x H1 Q
theorem z_lset {K : PySem.W.Frag} {ta : TE} {σ : L2.St} {H : Hp} {Q : VK} (h : ta σ H fun x H1 => rLset K x H1 Q) : tLset K ta σ H Q := h
instance i_lset {K : PySem.W.Frag} {ta : TE} {σ : L2.St} {H : Hp} {Q : VK} : Stp (tLset K ta σ H Q) (ta σ H fun x H1 => rLset K x H1 Q) := ⟨z_lset⟩
theorem z_lset1 {K : PySem.W.Frag} {H : Hp} {Q : VK} {l : Addr} {xs : List Str} (h1 : H l = some (.lst (xs.map V.str))) (h2 : xs.length ≤ 1000) (h : Q (.int (dcn xs xs.length : Nat)) H) : rLset K (.ref l) H Q := ⟨l, xs, rfl, SqL.of h1, h2, h⟩
theorem pe_lset {X : Cx} {a : Expr} {ta : TE} {p p2 q pos : Pos} (hc : X.calm = true) (hg : Gl X "len") (hm : X.mg "len" = none) (hg2 : Gl X "set") (hm2 : X.mg "set" = none) (ha : PE X a ta)
    (na : starEach [a] X.env = (false, eval a X.env) :: starEach [] X.env := by rfl) : PE X (.Call (.Name "len" p) [.Call (.Name "set" p2) [a] [] q] [] pos) (tLset X.K ta) := by
  constructor
  intro pins s σ H Q I h
  refine Call_ (ld_blt I hg hm boot_len (callWith_builtin1 (args_cons (Call_ (ld_blt I hg2 hm2 boot_set (callWith_type1 (args_cons (thn (ha.run pins s σ H _ I h) fun v s1 ⟨x, H1, I1, r1, q1⟩ => args_nil ?_) na) na rfl))) rfl) rfl rfl))
  obtain ⟨l, xs, rfl, hq, h1, q1⟩ := q1
  cases r1
  obtain ⟨its, r, pl, hz⟩ := I1.list hq
  refine call_set_strs (I1.ok.hd hc) pl.isList (by simpa using strsAre_of r) (by unfold scanBound; omega) fun h' tk hS hk => args_nil ?_
  have hl : its.toArray.size = xs.length := by rw [List.size_toArray, ← r.length, List.length_map]
  rw [hl] at hS
  obtain ⟨o, es, ep, t, ho, hex, hd, _, _, _, hf, hn⟩ := hS
  have I2 : Inv X pins σ H1 { s1 with heap := h', toks := tk } := I1.kept fun b o e => hk b o (Heap.lt_size e) e
  exact call_len_set ho hex hd hf (by have := dcn_le xs xs.length; rw [hn]; omega) ⟨.int (dcn xs xs.length : Nat), H1, I2.tok _, ⟨_, by rw [hn]⟩, q1⟩
end LX
/-! text.replace(..) of written texts where a written text was read before; a clause that is never reached -/
namespace LX
open PySem PySem.Spec PyProof.Rows L2 NdefX CwR
section
variable {X : Cx} {o e a : Expr} {to te ta : TE} {j j2 j3 : Nat} {c0 c1 c2 apos pos pos2 p p' cpos : Pos}
theorem pe_addRepl {q y z : Str} {l ly lz : List Nat} (eq : q = T l) (ey : y = T ly) (ez : z = T lz) (ho : PE X o to) (hyz : (T ly == T lz) = false := by decide)
    (hst : starEach [.Constant (.str (T ly)) j c0, .Constant (.str (T lz)) j2 c1] X.env = [(false, eval (.Constant (.str (T ly)) j c0) X.env), (false, eval (.Constant (.str (T lz)) j2 c1) X.env)] := by rfl)
    (hbase : attributeBase o "replace" X.env (eval o X.env) = eval o X.env := by rfl) (hline : (apos.endLine == pos.line) = true := by rfl) :
    PE X (.BinOp (.Constant (.str q) j3 c2) .Add (.Call (.Attribute o "replace" apos) [.Constant (.str y) j c0, .Constant (.str z) j2 c1] [] pos) pos2) (tOp (rAddU X.K) (tC (.str (T l))) (tReplC to (T ly) (T lz))) := by
  subst eq; subst ey; subst ez
  refine ⟨fun pins s σ H Q I h => wpAny_BinOp (Calls.Constant_str ?_)⟩
  refine thn (pet_replC (X := X) ho hyz hst hbase hline pins _ σ H _ (by show 1 ≤ s.toks + 1; omega) (I.tok _) (show tReplC to (T ly) (T lz) σ H (fun y H2 => rAddU X.K (.str (T l)) y H2 Q) from h)) fun u s2 ⟨y, H2, I2, r2, q2⟩ => ?_
  exact op_addU pins s2 σ H2 (.str (T l)) y _ u Q I2 ⟨_, rfl⟩ r2 q2
theorem pst_set {i : Nat} {x : Str} {pos' : Pos} (hN : X.N.Nodup) (hi : X.N[i]? = some x) (hx : Loc X.env.scope x) (he : PET X e te) (hs : swapsWith e (some (.Name x pos')) pos.line X.env = pure false := by rfl) (hf : X.fn x = true ∨ X.env.scope.names.lookup x = some .local := by first | exact .inl rfl | exact .inr rfl | assumption) :
    PST X (.Assign [.Name x pos'] e pos) (tAsg te (gName i)) := by
  intro pins s σ H D h0 I h
  refine wpAny_Assign_Name (thn (he pins s σ H _ h0 I h) fun v s1 ⟨y, H1, I1, r1, q1⟩ => ?_) hs
  exact store_ok I1 hN hi hx r1 (fun s2 I2 => ⟨_, H1, I2, q1⟩) hf
theorem pet_repl2 {y z : Str} {ly lz : List Nat} (ey : y = T ly) (ez : z = T lz) (ho : PE X o to) (hyz : (T ly == T lz) = false := by decide)
    (hst : starEach [.Constant (.str (T ly)) j c0, .Constant (.str (T lz)) j2 c1] X.env = [(false, eval (.Constant (.str (T ly)) j c0) X.env), (false, eval (.Constant (.str (T lz)) j2 c1) X.env)] := by rfl)
    (hbase : attributeBase o "replace" X.env (eval o X.env) = eval o X.env := by rfl) (hline : (apos.endLine == pos.line) = true := by rfl) :
    PET X (.Call (.Attribute o "replace" apos) [.Constant (.str y) j c0, .Constant (.str z) j2 c1] [] pos) (tReplC to (T ly) (T lz)) := by
  subst ey; subst ez
  exact pet_replC ho hyz hst hbase hline
theorem ps_ifT {op : CmpOp} {r : R2} {q : Str} {l : List Nat} {A B : List Stmt} {t u : TS} (ho : OpR X (compareOp op) r) (ha : PE X a ta) (eq : q = T l) (hm : behindInMarks op (.Constant (.str q) j c0) = false) (hA : PSsT X A t) (hB : PSs X B u) :
    PS X (.If (.Compare a [op] [.Constant (.str q) j c0] cpos) A B pos) (tIfS (tTest (tOp r ta (tC (.str (T l))))) t u) := by
  subst eq
  refine ⟨fun pins s σ H D I h => ?_⟩
  refine wpAny_If (wpAny_isTrue_Compare1 (thn (ha.run pins s σ H _ I h) fun v s1 ⟨x, H1, I1, r1, q1⟩ => Calls.Constant_str (wpAny_mono (PySem.wpAny_toks_of (n := 1) (by show 1 ≤ s1.toks + 1; omega)
    (ho pins _ σ H1 x (.str (T l)) v _ _ (I1.tok _) r1 ⟨_, rfl⟩ q1)) (fun c s3 q => ?_) (fun _ _ z => z.2))) hm)
  obtain ⟨hk, z, H3, I3, r3, k, e, q3⟩ := q
  subst e
  cases r3
  refine wpAny_truthy_bool ?_
  cases k with
  | true => exact hA pins s3 σ H3 D hk I3 q3
  | false => exact hB.run pins s3 σ H3 D I3 q3
def ipS : TIp := fun x y H Q => ∃ i j, x = .str i ∧ y = .str j ∧ i.length + j.length ≤ sizeLine ∧ Q (.str (i ++ j)) H
theorem ip_addS : PIp X .Add ipS := iop_add_str
theorem hdl_dead {hds : List ExceptHandler} : HdlOk X hds fun _ _ _ _ _ => False := by
  intro pins σ H s0 s B x1 cls d D I nb up fl na os ag hw
  exact hw.elim
end
section
variable {K : PySem.W.Frag} {σ : L2.St} {H : Hp} {D : Ends} {Q : VK}
def oRepl (y z : Str) (v : V) (H : Hp) (Q : VK) : Prop := ∃ x, v = .str x ∧ x.length + (x.length + 1) * z.length ≤ 16777216 ∧ Q (.str (Txt.replace x y z)) H
theorem z_repl {to : TE} {y z : Str} (h : to σ H fun v H1 => oRepl y z v H1 Q) : tReplC to y z σ H Q := h
instance i_repl {to : TE} {y z : Str} : Stp (tReplC to y z σ H Q) (to σ H fun v H1 => oRepl y z v H1 Q) := ⟨z_repl⟩
theorem T_of_list (x : Str) : x = T x.cps.toList := by cases x; rfl
theorem z_repl1 {ly lz l : List Nat} (h1 : l.length + (l.length + 1) * lz.length ≤ 16777216) (hy : 1 ≤ ly.length) (h : Q (.str (T (StrLaws.replL ly lz l))) H) : oRepl (T ly) (T lz) (.str (T l)) H Q := by
  refine ⟨_, rfl, h1, ?_⟩
  rw [T_of_list (Txt.replace (T l) (T ly) (T lz)), StrLaws.replace_list (by exact hy)]
  exact h
end
end LX
/-! comprehensions with two clauses -/
namespace LX
open PySem PySem.Spec PyProof.Rows L2 NdefX
theorem pi_listK {X : Cx} {K : PySem.W.Frag} {tg l : Expr} {tl : TE} (e : X.K = K) (hl : PE X l tl) : PI X tg l (iList K tl) := by subst e; exact pi_list hl
theorem z_listT {K : PySem.W.Frag} {H : Hp} {p : Addr} {ys : List V} {Q : VK} (h1 : H p = some (.tup ys)) (h : ∀ l H1, H l = none → Fr [] H H1 → H1 l = some (.lst ys) → Q (.ref l) H1) : rListU K [V.ref p] H Q := ⟨p, ys, rfl, Or.inr (SqT.of h1), fun l hl => h l _ hl (Fr.new hl) upd_same⟩
end LX
/-! comprehensions over a text, over a tuple of the module -/
namespace LX
open PySem PySem.Spec PyProof.Rows L2
section
variable {K : PySem.W.Frag} {g : TG} {tt : TT} {te : TE} {vs : List Nat} {σ : L2.St} {H H1 : Hp} {R : Addr}
theorem Fr.seqT {H H' : Hp} {a : Addr} {xs : List V} (f : Fr [] H H') (h : SqT K H a xs) : SqT K H' a xs := by
  rcases h with (h | ⟨o, h⟩) | h
  · exact Or.inl (Or.inl (f.g0 h))
  · exact Or.inl (Or.inr ⟨o, f.g0 h⟩)
  · exact Or.inr h
/-- over a tuple, that may be the module's -/
theorem z_lcU {a : Addr} {src : List V} {Q : VK} (ha : SqT K H1 a src) (Pv : Nat → List V → Hp → Prop) (h0 : ∀ R H', H1 R = none → Fr [] H1 H' → Pv 0 [] H')
    (hs : ∀ R i x xs H', H1 R = none → src[i]? = some x → i < src.length → xs.length ≤ i → Pv i xs H' → H' R = some (.lst xs) → Fr [] H1 H' → g x (wipe σ vs) H' fun σ2 H2 => wipe σ2 vs = wipe σ vs ∧ tt σ2 H2 fun b H3 =>
      if b = true then te σ2 H3 fun y H4 => LcY H1 R Pv (i + 1) y H4 else LcI H1 R Pv (i + 1) H3)
    (hd : ∀ R xs H', H1 R = none → Pv src.length xs H' → xs.length ≤ src.length → H' R = some (.lst xs) → Fr [] H1 H' → Q (.ref R) H') :
    oLc (Itt K a) g tt te vs σ H1 Q := fun R hR =>
  lc_tup (xs := src) (fun i H' => LcI H1 R Pv i H') ⟨[], Nat.le_refl _, h0 R _ hR (Fr.new hR), upd_same, Fr.new hR⟩ (fun i H' _ ⟨xs, hl, p, hx, f⟩ => f.seqT ha)
    (fun i x H' hi ⟨xs, hl, p, hx, f⟩ => hs R i x xs H' hR hi (List.getElem?_eq_some_iff.mp hi).1 hl p hx f) (fun H' ⟨xs, hl, p, hx, f⟩ => hd R xs H' hR p hl hx f)
/-- over a text -/
theorem z_lcS {l : List Nat} {Q : VK} (Pv : Nat → List V → Hp → Prop) (h0 : ∀ R H', H1 R = none → Fr [] H1 H' → Pv 0 [] H')
    (hs : ∀ R i c xs H', H1 R = none → l[i]? = some c → i < l.length → xs.length ≤ i → Pv i xs H' → H' R = some (.lst xs) → Fr [] H1 H' → g (.str (T [c])) (wipe σ vs) H' fun σ2 H2 => wipe σ2 vs = wipe σ vs ∧ tt σ2 H2 fun b H3 =>
      if b = true then te σ2 H3 fun y H4 => LcY H1 R Pv (i + 1) y H4 else LcI H1 R Pv (i + 1) H3)
    (hd : ∀ R xs H', H1 R = none → Pv l.length xs H' → xs.length ≤ l.length → H' R = some (.lst xs) → Fr [] H1 H' → Q (.ref R) H') :
    oLc (Its (T l)) g tt te vs σ H1 Q := by
  intro R hR
  have sz : (T l).cps.size = l.length := by show l.toArray.size = _; simp
  refine ⟨fun i m H' => m = l.length - i ∧ i ≤ l.length ∧ LcI H1 R Pv i H', ⟨l.length, by simp, Nat.zero_le _, [], Nat.le_refl _, h0 R _ hR (Fr.new hR), upd_same, Fr.new hR⟩, ?_⟩
  rintro i m H' ⟨rfl, hi, xs, hl, p, hx, f⟩
  by_cases hlt : i < l.length
  · refine .inr ⟨by show i < (T l).cps.size; omega, fun H' => LcI H1 R Pv (i + 1) H', fun H'' p' => ⟨l.length - (i + 1), by omega, rfl, hlt, p'⟩, fun x H'' y => ?_⟩
    obtain ⟨e, c, hc, ex⟩ := y
    subst e ex
    have hc' : l[i]? = some c := by
      have z : l.toArray[i]? = some c := hc
      simpa using z
    exact hs R i c xs _ hR hc' hlt hl p hx f
  · obtain rfl : i = l.length := by omega
    exact .inl ⟨by show (T l).cps.size ≤ _; omega, hd R xs H' hR p hl hx f⟩
/-- the loop's head over a tuple -/
def oIterT (K : PySem.W.Frag) (x : V) (H : Hp) (R : It → Hp → Prop) : Prop := ∃ a, x = .ref a ∧ (∃ xs, SqT K H a xs) ∧ R (Itt K a) H
theorem z_iTup {tl : TE} {R : It → Hp → Prop} (h : tl σ H fun x H1 => oIterT K x H1 R) : iTup K tl σ H R := h
instance i_iTup {tl : TE} {R : It → Hp → Prop} : Stp (iTup K tl σ H R) (tl σ H fun x H1 => oIterT K x H1 R) := ⟨z_iTup⟩
theorem z_iTup1 {p : Addr} {xs : List V} {R : It → Hp → Prop} (h1 : SqT K H p xs) (h : R (Itt K p) H) : oIterT K (.ref p) H R := ⟨p, rfl, ⟨xs, h1⟩, h⟩
/-- the loop's head over a text -/
def oIterS (x : V) (H : Hp) (R : It → Hp → Prop) : Prop := ∃ z, x = .str z ∧ R (Its z) H
theorem z_iStr {te : TE} {R : It → Hp → Prop} (h : te σ H fun v H1 => oIterS v H1 R) : iStr te σ H R := h
instance i_iStr {te : TE} {R : It → Hp → Prop} : Stp (iStr te σ H R) (te σ H fun v H1 => oIterS v H1 R) := ⟨z_iStr⟩
instance i_iStr1 {z : Str} {R : It → Hp → Prop} : Stp (oIterS (.str z) H R) (R (Its z) H) := ⟨fun h => ⟨z, rfl, h⟩⟩
end
end LX
namespace LX
open PySem PySem.Spec PyProof.Rows L2 NdefX
def top (i : Nat) : Stmt := PySem.Challenge.pw_saggar_k52_plans_of_changes.main.body.getD i (.Pass ⟨0, 0, 0, 0⟩)
abbrev s_BadClass___init__ : Stmt := inClass (top 2) 0
abbrev N_BadClass___init__ : List Str := ["self", "why"]
theorem ns_BadClass___init__ : NScope ["self", "why", "__class__"] ["self", "why"] ["__class__"] (defScope s_BadClass___init__) := nscope_by (by decide +kernel)
abbrev s_is_letter : Stmt := top 7
abbrev N_is_letter : List Str := ["char"]
theorem sc_is_letter : FnScope N_is_letter ["char"] (defScope s_is_letter) := ⟨rfl, rfl, rfl, by decide +kernel, rfl, by decide +kernel, by decide +kernel⟩
abbrev s_is_name : Stmt := top 8
abbrev N_is_name : List Str := ["text", "capital", "char"]
theorem sc_is_name : FnScope N_is_name ["text", "capital"] (defScope s_is_name) := ⟨rfl, rfl, rfl, by decide +kernel, rfl, by decide +kernel, by decide +kernel⟩
abbrev s_Kind___init__ : Stmt := inClass (top 10) 0
abbrev N_Kind___init__ : List Str := ["self", "name", "superclass", "fields"]
theorem sc_Kind___init__ : FnScope N_Kind___init__ ["self", "name", "superclass", "fields"] (defScope s_Kind___init__) := ⟨rfl, rfl, rfl, by decide +kernel, rfl, by decide +kernel, by decide +kernel⟩
abbrev s_Change___init__ : Stmt := inClass (top 11) 0
abbrev N_Change___init__ : List Str := ["self", "name", "old", "new", "field"]
theorem sc_Change___init__ : FnScope N_Change___init__ ["self", "name", "old", "new"] (defScope s_Change___init__) := ⟨rfl, rfl, rfl, by decide +kernel, rfl, by decide +kernel, by decide +kernel⟩
abbrev s_origin_of : Stmt := top 12
abbrev N_origin_of : List Str := ["old", "field"]
theorem sc_origin_of : FnScope N_origin_of ["old", "field"] (defScope s_origin_of) := ⟨rfl, rfl, rfl, by decide +kernel, rfl, by decide +kernel, by decide +kernel⟩
abbrev s_kind_named : Stmt := top 13
abbrev N_kind_named : List Str := ["kinds", "name", "kind"]
theorem sc_kind_named : FnScope N_kind_named ["kinds", "name"] (defScope s_kind_named) := ⟨rfl, rfl, rfl, by decide +kernel, rfl, by decide +kernel, by decide +kernel⟩
abbrev s_all_fields : Stmt := top 14
abbrev N_all_fields : List Str := ["kinds", "name", "found", "kind"]
theorem sc_all_fields : FnScope N_all_fields ["kinds", "name"] (defScope s_all_fields) := ⟨rfl, rfl, rfl, by decide +kernel, rfl, by decide +kernel, by decide +kernel⟩
abbrev s_is_under : Stmt := top 15
abbrev N_is_under : List Str := ["kinds", "name", "other"]
theorem sc_is_under : FnScope N_is_under ["kinds", "name", "other"] (defScope s_is_under) := ⟨rfl, rfl, rfl, by decide +kernel, rfl, by decide +kernel, by decide +kernel⟩
abbrev s_check_change : Stmt := top 16
abbrev N_check_change : List Str := ["kinds", "name", "superclass", "fields", "kind", "k"]
theorem sc_check_change : FnScope N_check_change ["kinds", "name", "superclass", "fields"] (defScope s_check_change) := ⟨rfl, rfl, rfl, by decide +kernel, rfl, by decide +kernel, by decide +kernel⟩
abbrev s_changed_kinds : Stmt := top 17
abbrev N_changed_kinds : List Str := ["kinds", "name", "superclass", "fields", "found", "kind"]
theorem sc_changed_kinds : FnScope N_changed_kinds ["kinds", "name", "superclass", "fields"] (defScope s_changed_kinds) := ⟨rfl, rfl, rfl, by decide +kernel, rfl, by decide +kernel, by decide +kernel⟩
abbrev s_plan_change : Stmt := top 18
abbrev N_plan_change : List Str := ["kinds", "name", "superclass", "fields", "behind", "changes", "kind", "new"]
theorem sc_plan_change : FnScope N_plan_change ["kinds", "name", "superclass", "fields"] (defScope s_plan_change) := ⟨rfl, rfl, rfl, by decide +kernel, rfl, by decide +kernel, by decide +kernel⟩
abbrev s__law_draw : Stmt := top 20
abbrev N__law_draw : List Str := ["_law_state", "_law_script", "_law_size", "_law_cell", "_law_mixed", "_law_digit"]
theorem sc__law_draw : FnScope N__law_draw ["_law_state", "_law_script", "_law_size"] (defScope s__law_draw) := ⟨rfl, rfl, rfl, by decide +kernel, rfl, by decide +kernel, by decide +kernel⟩
abbrev s__law_kinds : Stmt := top 21
abbrev N__law_kinds : List Str := ["_law_state", "_law_script", "_law_names", "_law_fields", "_law_kinds_here", "_law_k", "_law_above", "_law_taken", "_law_own", "_law_j", "_law_field"]
theorem sc__law_kinds : FnScope N__law_kinds ["_law_state", "_law_script"] (defScope s__law_kinds) := ⟨rfl, rfl, rfl, by decide +kernel, rfl, by decide +kernel, by decide +kernel⟩
abbrev s__law_all : Stmt := top 22
abbrev N__law_all : List Str := ["_law_kinds_here", "_law_name", "_law_found", "_law_k", "_law_above", "_law_own", "_law_one"]
theorem sc__law_all : FnScope N__law_all ["_law_kinds_here", "_law_name"] (defScope s__law_all) := ⟨rfl, rfl, rfl, by decide +kernel, rfl, by decide +kernel, by decide +kernel⟩
abbrev s__law_under : Stmt := top 23
abbrev N__law_under : List Str := ["_law_kinds_here", "_law_name", "_law_other", "_law_k", "_law_above", "_law_one"]
theorem sc__law_under : FnScope N__law_under ["_law_kinds_here", "_law_name", "_law_other"] (defScope s__law_under) := ⟨rfl, rfl, rfl, by decide +kernel, rfl, by decide +kernel, by decide +kernel⟩
abbrev s__law_good : Stmt := top 24
abbrev N__law_good : List Str := ["_law_name", "_law_char"]
theorem sc__law_good : FnScope N__law_good ["_law_name"] (defScope s__law_good) := ⟨rfl, rfl, rfl, by decide +kernel, rfl, by decide +kernel, by decide +kernel⟩
abbrev s__law_why : Stmt := top 25
abbrev N__law_why : List Str := ["_law_kinds_here", "_law_name", "_law_above", "_law_own", "_law_names", "_law_one", "_law_k", "_law_behind_here", "_law_fields"]
theorem sc__law_why : FnScope N__law_why ["_law_kinds_here", "_law_name", "_law_above", "_law_own"] (defScope s__law_why) := ⟨rfl, rfl, rfl, by decide +kernel, rfl, by decide +kernel, by decide +kernel⟩
abbrev s__law_behind : Stmt := top 26
abbrev N__law_behind : List Str := ["_law_kinds_here", "_law_name", "_law_above", "_law_own", "_law_found", "_law_one"]
theorem sc__law_behind : FnScope N__law_behind ["_law_kinds_here", "_law_name", "_law_above", "_law_own"] (defScope s__law_behind) := ⟨rfl, rfl, rfl, by decide +kernel, rfl, by decide +kernel, by decide +kernel⟩
abbrev s__law_planned : Stmt := top 27
abbrev N__law_planned : List Str := ["_law_kinds_here", "_law_name", "_law_above", "_law_own", "_law_given", "_law_one", "_law_asked", "e", "_law_found"]
theorem sc__law_planned : FnScope N__law_planned ["_law_kinds_here", "_law_name", "_law_above", "_law_own"] (defScope s__law_planned) := ⟨rfl, rfl, rfl, by decide +kernel, rfl, by decide +kernel, by decide +kernel⟩
abbrev s__law_due : Stmt := top 28
abbrev N__law_due : List Str := ["_law_kinds_here", "_law_name", "_law_above", "_law_own", "_law_why_here", "_law_behind_here", "_law_found", "_law_one", "_law_old", "_law_new", "_law_origins", "_law_field"]
theorem sc__law_due : FnScope N__law_due ["_law_kinds_here", "_law_name", "_law_above", "_law_own"] (defScope s__law_due) := ⟨rfl, rfl, rfl, by decide +kernel, rfl, by decide +kernel, by decide +kernel⟩
abbrev s_law : Stmt := top 29
abbrev N_law : List Str := ["_law_script", "_law_state", "_law_kinds_here", "_law_given", "_law_one", "_law_other", "_law_fields", "_law_wrong", "_law_k", "_law_asked", "_law_new", "_law_pick", "_law_due_here", "_law_name", "_law_above", "_law_own", "_law_behind_here", "_law_back", "_law_j"]
theorem sc_law : FnScope N_law ["_law_script"] (defScope s_law) := ⟨rfl, rfl, rfl, by decide +kernel, rfl, by decide +kernel, by decide +kernel⟩
structure Wd (P : Program) (K : PySem.W.Frag) (mg : Str → Option Value) where
  n_all : mg "all" = none
  n_int : mg "int" = none
  n_len : mg "len" = none
  n_list : mg "list" = none
  n_range : mg "range" = none
  n_repr : mg "repr" = none
  n_set : mg "set" = none
  n_str : mg "str" = none
  n_tuple : mg "tuple" = none
  a_KERNEL : Addr
  g_KERNEL : mg "KERNEL" = some (.ref a_KERNEL)
  tp_KERNEL : ∀ H : Hp, SqT K H a_KERNEL [.str (T [79, 98, 106, 101, 99, 116]), .str (T [67, 108, 97, 115, 115]), .str (T [85, 110, 100, 101, 102, 105, 110, 101, 100]), .str (T [84, 114, 117, 101]), .str (T [70, 97, 108, 115, 101]), .str (T [73, 110, 116, 101, 103, 101, 114]), .str (T [83, 121, 109, 98, 111, 108]), .str (T [65, 114, 114, 97, 121]), .str (T [65, 115, 115, 111, 99, 105, 97, 116, 105, 111, 110]), .str (T [77, 101, 116, 104, 111, 100]), .str (T [67, 111, 100, 101]), .str (T [66, 108, 111, 99, 107]), .str (T [67, 111, 110, 116, 101, 120, 116]), .str (T [80, 114, 111, 99, 101, 115, 115]), .str (T [83, 101, 109, 97, 112, 104, 111, 114, 101])]
  t_MOST_FIELDS : Tok
  g_MOST_FIELDS : mg "MOST_FIELDS" = some (.int (32) t_MOST_FIELDS)
  a_RESERVED : Addr
  g_RESERVED : mg "RESERVED" = some (.ref a_RESERVED)
  tp_RESERVED : ∀ H : Hp, SqT K H a_RESERVED [.str (T [110, 105, 108]), .str (T [116, 114, 117, 101]), .str (T [102, 97, 108, 115, 101]), .str (T [115, 101, 108, 102]), .str (T [115, 117, 112, 101, 114])]
  c_BadClass : Addr
  g_BadClass : mg "BadClass" = some (.ref c_BadClass)
  c_Kind : Addr
  g_Kind : mg "Kind" = some (.ref c_Kind)
  C_Kind : Cls K c_Kind
  na_Kind_name : NoAttr K c_Kind "name"
  na_Kind_superclass : NoAttr K c_Kind "superclass"
  na_Kind_fields : NoAttr K c_Kind "fields"
  c_Change : Addr
  g_Change : mg "Change" = some (.ref c_Change)
  C_Change : Cls K c_Change
  na_Change_name : NoAttr K c_Change "name"
  na_Change_old : NoAttr K c_Change "old"
  na_Change_new : NoAttr K c_Change "new"
  na_Change_origins : NoAttr K c_Change "origins"
  f_BadClass___init__ : Addr
  fd_BadClass___init__ : FuncData
  X_BadClass : OexC K c_BadClass
  i_BadClass : PySem.W.findIn K (.ref c_BadClass) "__init__" = some (some (.ref f_BadClass___init__)) ∧ PySem.W.typeIn K (.ref f_BadClass___init__) = some (.type "function")
  cc_BadClass : Addr
  cda_BadClass : Addr
  S_BadClass : SupTxt P K mg c_BadClass cda_BadClass cc_BadClass (defScope s_BadClass___init__)
  L_BadClass : ∃ oc od kV dc pm an ct osl, K.lookup f_BadClass___init__ = some ⟨oc, od, .func fd_BadClass___init__, osl⟩ ∧ fd_BadClass___init__ = PySem.W.fnX "__init__" "BadClass.__init__" (defArgs s_BadClass___init__) (defBody s_BadClass___init__) (defScope s_BadClass___init__) [("__class__", cc_BadClass)] .none kV dc pm an (.ref cda_BadClass) ct ∧ PySem.W.codeIn K (.ref cda_BadClass) "BadClass.__init__" = true
  E_BadClass : ExK K c_BadClass
  xn_BadClass_why : PySem.W.findIn K (.ref c_BadClass) "why" = some none
  b_BadClass___init__ : Binds K fd_BadClass___init__ ["self", "why"] []
  f_is_letter : Addr
  fd_is_letter : FuncData
  F_is_letter : Fun K "is_letter" "is_letter" s_is_letter f_is_letter fd_is_letter
  g_is_letter : mg "is_letter" = some (.ref f_is_letter)
  b_is_letter : Binds K fd_is_letter ["char"] []
  f_is_name : Addr
  fd_is_name : FuncData
  F_is_name : Fun K "is_name" "is_name" s_is_name f_is_name fd_is_name
  g_is_name : mg "is_name" = some (.ref f_is_name)
  b_is_name : Binds K fd_is_name ["text", "capital"] []
  f_Kind___init__ : Addr
  fd_Kind___init__ : FuncData
  F_Kind___init__ : Fun K "__init__" "Kind.__init__" s_Kind___init__ f_Kind___init__ fd_Kind___init__
  M_Kind : Mk K c_Kind f_Kind___init__
  b_Kind___init__ : Binds K fd_Kind___init__ ["self", "name", "superclass", "fields"] []
  f_Change___init__ : Addr
  fd_Change___init__ : FuncData
  F_Change___init__ : Fun K "__init__" "Change.__init__" s_Change___init__ f_Change___init__ fd_Change___init__
  M_Change : Mk K c_Change f_Change___init__
  b_Change___init__ : Binds K fd_Change___init__ ["self", "name", "old", "new"] []
  f_origin_of : Addr
  fd_origin_of : FuncData
  F_origin_of : Fun K "origin_of" "origin_of" s_origin_of f_origin_of fd_origin_of
  g_origin_of : mg "origin_of" = some (.ref f_origin_of)
  b_origin_of : Binds K fd_origin_of ["old", "field"] []
  f_kind_named : Addr
  fd_kind_named : FuncData
  F_kind_named : Fun K "kind_named" "kind_named" s_kind_named f_kind_named fd_kind_named
  g_kind_named : mg "kind_named" = some (.ref f_kind_named)
  b_kind_named : Binds K fd_kind_named ["kinds", "name"] []
  f_all_fields : Addr
  fd_all_fields : FuncData
  F_all_fields : Fun K "all_fields" "all_fields" s_all_fields f_all_fields fd_all_fields
  g_all_fields : mg "all_fields" = some (.ref f_all_fields)
  b_all_fields : Binds K fd_all_fields ["kinds", "name"] []
  f_is_under : Addr
  fd_is_under : FuncData
  F_is_under : Fun K "is_under" "is_under" s_is_under f_is_under fd_is_under
  g_is_under : mg "is_under" = some (.ref f_is_under)
  b_is_under : Binds K fd_is_under ["kinds", "name", "other"] []
  f_check_change : Addr
  fd_check_change : FuncData
  F_check_change : Fun K "check_change" "check_change" s_check_change f_check_change fd_check_change
  g_check_change : mg "check_change" = some (.ref f_check_change)
  b_check_change : Binds K fd_check_change ["kinds", "name", "superclass", "fields"] []
  f_changed_kinds : Addr
  fd_changed_kinds : FuncData
  F_changed_kinds : Fun K "changed_kinds" "changed_kinds" s_changed_kinds f_changed_kinds fd_changed_kinds
  g_changed_kinds : mg "changed_kinds" = some (.ref f_changed_kinds)
  b_changed_kinds : Binds K fd_changed_kinds ["kinds", "name", "superclass", "fields"] []
  f_plan_change : Addr
  fd_plan_change : FuncData
  F_plan_change : Fun K "plan_change" "plan_change" s_plan_change f_plan_change fd_plan_change
  g_plan_change : mg "plan_change" = some (.ref f_plan_change)
  b_plan_change : Binds K fd_plan_change ["kinds", "name", "superclass", "fields"] []
  f__law_draw : Addr
  fd__law_draw : FuncData
  F__law_draw : Fun K "_law_draw" "_law_draw" s__law_draw f__law_draw fd__law_draw
  g__law_draw : mg "_law_draw" = some (.ref f__law_draw)
  b__law_draw : Binds K fd__law_draw ["_law_state", "_law_script", "_law_size"] []
  f__law_kinds : Addr
  fd__law_kinds : FuncData
  F__law_kinds : Fun K "_law_kinds" "_law_kinds" s__law_kinds f__law_kinds fd__law_kinds
  g__law_kinds : mg "_law_kinds" = some (.ref f__law_kinds)
  b__law_kinds : Binds K fd__law_kinds ["_law_state", "_law_script"] []
  f__law_all : Addr
  fd__law_all : FuncData
  F__law_all : Fun K "_law_all" "_law_all" s__law_all f__law_all fd__law_all
  g__law_all : mg "_law_all" = some (.ref f__law_all)
  b__law_all : Binds K fd__law_all ["_law_kinds_here", "_law_name"] []
  f__law_under : Addr
  fd__law_under : FuncData
  F__law_under : Fun K "_law_under" "_law_under" s__law_under f__law_under fd__law_under
  g__law_under : mg "_law_under" = some (.ref f__law_under)
  b__law_under : Binds K fd__law_under ["_law_kinds_here", "_law_name", "_law_other"] []
  f__law_good : Addr
  fd__law_good : FuncData
  F__law_good : Fun K "_law_good" "_law_good" s__law_good f__law_good fd__law_good
  g__law_good : mg "_law_good" = some (.ref f__law_good)
  b__law_good : Binds K fd__law_good ["_law_name"] []
  f__law_why : Addr
  fd__law_why : FuncData
  F__law_why : Fun K "_law_why" "_law_why" s__law_why f__law_why fd__law_why
  g__law_why : mg "_law_why" = some (.ref f__law_why)
  b__law_why : Binds K fd__law_why ["_law_kinds_here", "_law_name", "_law_above", "_law_own"] []
  f__law_behind : Addr
  fd__law_behind : FuncData
  F__law_behind : Fun K "_law_behind" "_law_behind" s__law_behind f__law_behind fd__law_behind
  g__law_behind : mg "_law_behind" = some (.ref f__law_behind)
  b__law_behind : Binds K fd__law_behind ["_law_kinds_here", "_law_name", "_law_above", "_law_own"] []
  f__law_planned : Addr
  fd__law_planned : FuncData
  F__law_planned : Fun K "_law_planned" "_law_planned" s__law_planned f__law_planned fd__law_planned
  g__law_planned : mg "_law_planned" = some (.ref f__law_planned)
  b__law_planned : Binds K fd__law_planned ["_law_kinds_here", "_law_name", "_law_above", "_law_own"] []
  f__law_due : Addr
  fd__law_due : FuncData
  F__law_due : Fun K "_law_due" "_law_due" s__law_due f__law_due fd__law_due
  g__law_due : mg "_law_due" = some (.ref f__law_due)
  b__law_due : Binds K fd__law_due ["_law_kinds_here", "_law_name", "_law_above", "_law_own"] []
  f_law : Addr
  fd_law : FuncData
  F_law : Fun K "law" "law" s_law f_law fd_law
  g_law : mg "law" = some (.ref f_law)
  b_law : Binds K fd_law ["_law_script"] []
  em_BB : PySem.W.exmOne K (.ref c_BadClass) (.ref c_BadClass) = some true
def mkW {l : PySem.W.OpenLaw} {K : PySem.W.Frag} {h : Heap} {mg : Str → Option Value} (X : K.In h) (G : h.Ns mainGlobals mg)
    {a_KERNEL : Addr}
    {tDKERNEL : Option Addr} {tNKERNEL : Nat} {tSKERNEL : Array (Option Value)} {ttKERNEL_0 : Tok} {ttKERNEL_1 : Tok} {ttKERNEL_2 : Tok} {ttKERNEL_3 : Tok} {ttKERNEL_4 : Tok} {ttKERNEL_5 : Tok} {ttKERNEL_6 : Tok} {ttKERNEL_7 : Tok} {ttKERNEL_8 : Tok} {ttKERNEL_9 : Tok} {ttKERNEL_10 : Tok} {ttKERNEL_11 : Tok} {ttKERNEL_12 : Tok} {ttKERNEL_13 : Tok} {ttKERNEL_14 : Tok}
    {t_MOST_FIELDS : Tok}
    {a_RESERVED : Addr}
    {tDRESERVED : Option Addr} {tNRESERVED : Nat} {tSRESERVED : Array (Option Value)} {ttRESERVED_0 : Tok} {ttRESERVED_1 : Tok} {ttRESERVED_2 : Tok} {ttRESERVED_3 : Tok} {ttRESERVED_4 : Tok}
    {C_BadClass : Addr}
    {C_Kind : Addr}
    {C_Change : Addr}
    {ocBadClass___init__ kVBadClass___init__ dcBadClass___init__ pmBadClass___init__ cdBadClass___init__ ctBadClass___init__ : Value} {odBadClass___init__ anBadClass___init__ : Option Addr} {slBadClass___init__ : Array (Option Value)} {fBadClass___init__ : Addr}
    {cdaBadClass___init__ ccBadClass___init__ : Addr} {cclBadClass___init__ coBadClass___init__ : Value} {cddBadClass___init__ cldBadClass___init__ : Option Addr} {vsBadClass___init__ : Array Value} {ccsBadClass___init__ cslBadClass___init__ : Array (Option Value)} {fileBadClass___init__ : Str} {tfBadClass___init__ : Tok}
    {nmBadClass qBadClass : Str} {NBadClass : Addr} {bsBadClass bmBadClass : List Value} {snBadClass : List Str} {subBadClass : List Value} {abBadClass : Bool} {colBadClass : Option Bool} {ddBadClass : Option Addr} {m0BadClass m1BadClass m2BadClass m3BadClass m5BadClass : Option Value}
    {ocis_letter kVis_letter dcis_letter pmis_letter cdis_letter ctis_letter : Value} {odis_letter anis_letter : Option Addr} {slis_letter : Array (Option Value)} {fis_letter : Addr}
    {ocis_name kVis_name dcis_name pmis_name cdis_name ctis_name : Value} {odis_name anis_name : Option Addr} {slis_name : Array (Option Value)} {fis_name : Addr}
    {ocKind___init__ kVKind___init__ dcKind___init__ pmKind___init__ cdKind___init__ ctKind___init__ : Value} {odKind___init__ anKind___init__ : Option Addr} {slKind___init__ : Array (Option Value)} {fKind___init__ : Addr}
    {ocChange___init__ kVChange___init__ dcChange___init__ pmChange___init__ cdChange___init__ ctChange___init__ : Value} {odChange___init__ anChange___init__ : Option Addr} {slChange___init__ : Array (Option Value)} {fChange___init__ : Addr}
    {ocorigin_of kVorigin_of dcorigin_of pmorigin_of cdorigin_of ctorigin_of : Value} {odorigin_of anorigin_of : Option Addr} {slorigin_of : Array (Option Value)} {forigin_of : Addr}
    {ockind_named kVkind_named dckind_named pmkind_named cdkind_named ctkind_named : Value} {odkind_named ankind_named : Option Addr} {slkind_named : Array (Option Value)} {fkind_named : Addr}
    {ocall_fields kVall_fields dcall_fields pmall_fields cdall_fields ctall_fields : Value} {odall_fields anall_fields : Option Addr} {slall_fields : Array (Option Value)} {fall_fields : Addr}
    {ocis_under kVis_under dcis_under pmis_under cdis_under ctis_under : Value} {odis_under anis_under : Option Addr} {slis_under : Array (Option Value)} {fis_under : Addr}
    {occheck_change kVcheck_change dccheck_change pmcheck_change cdcheck_change ctcheck_change : Value} {odcheck_change ancheck_change : Option Addr} {slcheck_change : Array (Option Value)} {fcheck_change : Addr}
    {occhanged_kinds kVchanged_kinds dcchanged_kinds pmchanged_kinds cdchanged_kinds ctchanged_kinds : Value} {odchanged_kinds anchanged_kinds : Option Addr} {slchanged_kinds : Array (Option Value)} {fchanged_kinds : Addr}
    {ocplan_change kVplan_change dcplan_change pmplan_change cdplan_change ctplan_change : Value} {odplan_change anplan_change : Option Addr} {slplan_change : Array (Option Value)} {fplan_change : Addr}
    {oc_law_draw kV_law_draw dc_law_draw pm_law_draw cd_law_draw ct_law_draw : Value} {od_law_draw an_law_draw : Option Addr} {sl_law_draw : Array (Option Value)} {f_law_draw : Addr}
    {oc_law_kinds kV_law_kinds dc_law_kinds pm_law_kinds cd_law_kinds ct_law_kinds : Value} {od_law_kinds an_law_kinds : Option Addr} {sl_law_kinds : Array (Option Value)} {f_law_kinds : Addr}
    {oc_law_all kV_law_all dc_law_all pm_law_all cd_law_all ct_law_all : Value} {od_law_all an_law_all : Option Addr} {sl_law_all : Array (Option Value)} {f_law_all : Addr}
    {oc_law_under kV_law_under dc_law_under pm_law_under cd_law_under ct_law_under : Value} {od_law_under an_law_under : Option Addr} {sl_law_under : Array (Option Value)} {f_law_under : Addr}
    {oc_law_good kV_law_good dc_law_good pm_law_good cd_law_good ct_law_good : Value} {od_law_good an_law_good : Option Addr} {sl_law_good : Array (Option Value)} {f_law_good : Addr}
    {oc_law_why kV_law_why dc_law_why pm_law_why cd_law_why ct_law_why : Value} {od_law_why an_law_why : Option Addr} {sl_law_why : Array (Option Value)} {f_law_why : Addr}
    {oc_law_behind kV_law_behind dc_law_behind pm_law_behind cd_law_behind ct_law_behind : Value} {od_law_behind an_law_behind : Option Addr} {sl_law_behind : Array (Option Value)} {f_law_behind : Addr}
    {oc_law_planned kV_law_planned dc_law_planned pm_law_planned cd_law_planned ct_law_planned : Value} {od_law_planned an_law_planned : Option Addr} {sl_law_planned : Array (Option Value)} {f_law_planned : Addr}
    {oc_law_due kV_law_due dc_law_due pm_law_due cd_law_due ct_law_due : Value} {od_law_due an_law_due : Option Addr} {sl_law_due : Array (Option Value)} {f_law_due : Addr}
    {oclaw kVlaw dclaw pmlaw cdlaw ctlaw : Value} {odlaw anlaw : Option Addr} {sllaw : Array (Option Value)} {flaw : Addr}
    (z_third : PySem.W.nsIn K cStatics "thirdparty.any" = some none) (z_super : PySem.W.nsIn K mainGlobals "super" = some none) (z_top : (l.prog.main.scope.names.lookup ("super" : Str)).isSome = false)
    (z_sg : PySem.W.specialIn K (.builtin "object.__class__") "__get__" = some (some (.builtin "getset_descriptor.__get__"))) (z_st : PySem.W.takesIn K (.builtin "object.__class__") = some true)
    (z_all : PySem.W.nsIn K mainGlobals "all" = some none)
    (z_int : PySem.W.nsIn K mainGlobals "int" = some none)
    (z_len : PySem.W.nsIn K mainGlobals "len" = some none)
    (z_list : PySem.W.nsIn K mainGlobals "list" = some none)
    (z_range : PySem.W.nsIn K mainGlobals "range" = some none)
    (z_repr : PySem.W.nsIn K mainGlobals "repr" = some none)
    (z_set : PySem.W.nsIn K mainGlobals "set" = some none)
    (z_str : PySem.W.nsIn K mainGlobals "str" = some none)
    (z_tuple : PySem.W.nsIn K mainGlobals "tuple" = some none)
    (c_KERNEL : PySem.W.nsIn K mainGlobals "KERNEL" = some (some (.ref a_KERNEL)))
    (tl_KERNEL : K.lookup a_KERNEL = some ⟨.type "tuple", tDKERNEL, .seq ([.str (PySem.Str.ofString "Object") ttKERNEL_0, .str (PySem.Str.ofString "Class") ttKERNEL_1, .str (PySem.Str.ofString "Undefined") ttKERNEL_2, .str (PySem.Str.ofString "True") ttKERNEL_3, .str (PySem.Str.ofString "False") ttKERNEL_4, .str (PySem.Str.ofString "Integer") ttKERNEL_5, .str (PySem.Str.ofString "Symbol") ttKERNEL_6, .str (PySem.Str.ofString "Array") ttKERNEL_7, .str (PySem.Str.ofString "Association") ttKERNEL_8, .str (PySem.Str.ofString "Method") ttKERNEL_9, .str (PySem.Str.ofString "Code") ttKERNEL_10, .str (PySem.Str.ofString "Block") ttKERNEL_11, .str (PySem.Str.ofString "Context") ttKERNEL_12, .str (PySem.Str.ofString "Process") ttKERNEL_13, .str (PySem.Str.ofString "Semaphore") ttKERNEL_14] : List Value).toArray tNKERNEL, tSKERNEL⟩)
    (c_MOST_FIELDS : PySem.W.nsIn K mainGlobals "MOST_FIELDS" = some (some (.int (32) t_MOST_FIELDS)))
    (c_RESERVED : PySem.W.nsIn K mainGlobals "RESERVED" = some (some (.ref a_RESERVED)))
    (tl_RESERVED : K.lookup a_RESERVED = some ⟨.type "tuple", tDRESERVED, .seq ([.str (PySem.Str.ofString "nil") ttRESERVED_0, .str (PySem.Str.ofString "true") ttRESERVED_1, .str (PySem.Str.ofString "false") ttRESERVED_2, .str (PySem.Str.ofString "self") ttRESERVED_3, .str (PySem.Str.ofString "super") ttRESERVED_4] : List Value).toArray tNRESERVED, tSRESERVED⟩)
    (cl_BadClass : PySem.W.nsIn K mainGlobals "BadClass" = some (some (.ref C_BadClass)))
    (cl_Kind : PySem.W.nsIn K mainGlobals "Kind" = some (some (.ref C_Kind)))
    (pg_Kind : PySem.W.plainGet K C_Kind Str.empty = true)
    (hd_Kind : PySem.W.hasDictIn K C_Kind = true)
    (po_Kind : PySem.W.plainOver K C_Kind = true)
    (sa_Kind : PySem.W.findIn K (.ref C_Kind) "__setattr__" = some (some (.builtin "object.__setattr__")))
    (mk_Kind : PySem.W.makesIn K C_Kind = true)
    (kp_Kind : PySem.W.keepIn K (.ref C_Kind) = true)
    (na_Kind_name : PySem.W.findIn K (.ref C_Kind) "name" = some none)
    (na_Kind_superclass : PySem.W.findIn K (.ref C_Kind) "superclass" = some none)
    (na_Kind_fields : PySem.W.findIn K (.ref C_Kind) "fields" = some none)
    (cl_Change : PySem.W.nsIn K mainGlobals "Change" = some (some (.ref C_Change)))
    (pg_Change : PySem.W.plainGet K C_Change Str.empty = true)
    (hd_Change : PySem.W.hasDictIn K C_Change = true)
    (po_Change : PySem.W.plainOver K C_Change = true)
    (sa_Change : PySem.W.findIn K (.ref C_Change) "__setattr__" = some (some (.builtin "object.__setattr__")))
    (mk_Change : PySem.W.makesIn K C_Change = true)
    (kp_Change : PySem.W.keepIn K (.ref C_Change) = true)
    (na_Change_name : PySem.W.findIn K (.ref C_Change) "name" = some none)
    (na_Change_old : PySem.W.findIn K (.ref C_Change) "old" = some none)
    (na_Change_new : PySem.W.findIn K (.ref C_Change) "new" = some none)
    (na_Change_origins : PySem.W.findIn K (.ref C_Change) "origins" = some none)
    (a_BadClass___init__ : PySem.W.findIn K (.ref C_BadClass) "__init__" = some (some (.ref fBadClass___init__)))
    (l_BadClass___init__ : K.lookup fBadClass___init__ = some ⟨ocBadClass___init__, odBadClass___init__, .func (PySem.W.fnX "__init__" "BadClass.__init__" (defArgs s_BadClass___init__) (defBody s_BadClass___init__) (defScope s_BadClass___init__) [("__class__", ccBadClass___init__)] .none kVBadClass___init__ dcBadClass___init__ pmBadClass___init__ anBadClass___init__ (.ref cdaBadClass___init__) ctBadClass___init__), slBadClass___init__⟩)
    (c_BadClass___init__ : PySem.W.codeIn K (.ref cdaBadClass___init__) "BadClass.__init__" = true)
    (k_BadClass___init__ : PySem.W.typeIn K (.ref fBadClass___init__) = some (.type "function"))
    (x1_BadClass___init__ : K.lookup cdaBadClass___init__ = some ⟨cclBadClass___init__, cddBadClass___init__, .fields vsBadClass___init__, ccsBadClass___init__⟩)
    (x2_BadClass___init__ : vsBadClass___init__[2]? = some (.str fileBadClass___init__ tfBadClass___init__))
    (x3_BadClass___init__ : ((l.prog.main.file : Str) == fileBadClass___init__) = true)
    (x4_BadClass___init__ : K.lookup ccBadClass___init__ = some ⟨coBadClass___init__, cldBadClass___init__, .cell (some (.ref C_BadClass)), cslBadClass___init__⟩)
    (xl_BadClass : K.lookup C_BadClass = some (excClassObj nmBadClass qBadClass C_BadClass NBadClass bsBadClass bmBadClass true snBadClass subBadClass abBadClass colBadClass ddBadClass m0BadClass m1BadClass m2BadClass m3BadClass m5BadClass "ValueError.__new__"))
    (xr_BadClass : PySem.HandSPX.refsVE bmBadClass = true)
    (xs_BadClass : PySem.W.findIn K (.ref C_BadClass) "__setattr__" = some (some (.builtin "object.__setattr__")))
    (xe_BadClass : PySem.W.subIn K (.ref C_BadClass) (.type "BaseException") = some true)
    (xt_BadClass : PySem.W.typeIn K (.ref C_BadClass) = some (.type "type"))
    (xk_BadClass : PySem.W.keepIn K (.ref C_BadClass) = true)
    (xm_BadClass : PySem.W.mroIn K C_BadClass (.ref C_BadClass) = some true)
    (xi_BadClass : PySem.W.ks_superIn K C_BadClass C_BadClass "__init__" = some (some (.builtin "ValueError.__init__")))
    (xb_BadClass : PySem.W.subIn K (.ref C_BadClass) (.type "ValueError") = some true)
    (eg_BadClass : PySem.W.findIn K (.ref C_BadClass) "__getattribute__" = some (some (.builtin "BaseException.__getattribute__")))
    (ek_BadClass : PySem.W.findIn K (.ref C_BadClass) "__getattr__" = some none)
    (ed_BadClass : PySem.W.hasDictIn K C_BadClass = true)
    (ea_BadClass : PySem.W.findIn K (.ref C_BadClass) "__class__" = some (some (.builtin "object.__class__")))
    (em_BadClass : PySem.W.mroIn K C_BadClass (.type "object") = some true)
    (xn_BadClass_why : PySem.W.findIn K (.ref C_BadClass) "why" = some none)
    (a_is_letter : PySem.W.nsIn K mainGlobals "is_letter" = some (some (.ref fis_letter)))
    (l_is_letter : K.lookup fis_letter = some ⟨ocis_letter, odis_letter, .func (PySem.W.fnOf "is_letter" "is_letter" (defArgs s_is_letter) (defBody s_is_letter) (defScope s_is_letter) .none kVis_letter dcis_letter pmis_letter anis_letter cdis_letter ctis_letter), slis_letter⟩)
    (c_is_letter : PySem.W.codeIn K cdis_letter "is_letter" = true)
    (k_is_letter : PySem.W.keepIn K (.ref fis_letter) = true)
    (a_is_name : PySem.W.nsIn K mainGlobals "is_name" = some (some (.ref fis_name)))
    (l_is_name : K.lookup fis_name = some ⟨ocis_name, odis_name, .func (PySem.W.fnOf "is_name" "is_name" (defArgs s_is_name) (defBody s_is_name) (defScope s_is_name) .none kVis_name dcis_name pmis_name anis_name cdis_name ctis_name), slis_name⟩)
    (c_is_name : PySem.W.codeIn K cdis_name "is_name" = true)
    (k_is_name : PySem.W.keepIn K (.ref fis_name) = true)
    (a_Kind___init__ : PySem.W.findIn K (.ref C_Kind) "__init__" = some (some (.ref fKind___init__)))
    (l_Kind___init__ : K.lookup fKind___init__ = some ⟨ocKind___init__, odKind___init__, .func (PySem.W.fnOf "__init__" "Kind.__init__" (defArgs s_Kind___init__) (defBody s_Kind___init__) (defScope s_Kind___init__) .none kVKind___init__ dcKind___init__ pmKind___init__ anKind___init__ cdKind___init__ ctKind___init__), slKind___init__⟩)
    (c_Kind___init__ : PySem.W.codeIn K cdKind___init__ "Kind.__init__" = true)
    (k_Kind___init__ : PySem.W.keepIn K (.ref fKind___init__) = true)
    (fn_Kind___init__ : PySem.W.isFn K (.ref fKind___init__) = true)
    (a_Change___init__ : PySem.W.findIn K (.ref C_Change) "__init__" = some (some (.ref fChange___init__)))
    (l_Change___init__ : K.lookup fChange___init__ = some ⟨ocChange___init__, odChange___init__, .func (PySem.W.fnOf "__init__" "Change.__init__" (defArgs s_Change___init__) (defBody s_Change___init__) (defScope s_Change___init__) .none kVChange___init__ dcChange___init__ pmChange___init__ anChange___init__ cdChange___init__ ctChange___init__), slChange___init__⟩)
    (c_Change___init__ : PySem.W.codeIn K cdChange___init__ "Change.__init__" = true)
    (k_Change___init__ : PySem.W.keepIn K (.ref fChange___init__) = true)
    (fn_Change___init__ : PySem.W.isFn K (.ref fChange___init__) = true)
    (a_origin_of : PySem.W.nsIn K mainGlobals "origin_of" = some (some (.ref forigin_of)))
    (l_origin_of : K.lookup forigin_of = some ⟨ocorigin_of, odorigin_of, .func (PySem.W.fnOf "origin_of" "origin_of" (defArgs s_origin_of) (defBody s_origin_of) (defScope s_origin_of) .none kVorigin_of dcorigin_of pmorigin_of anorigin_of cdorigin_of ctorigin_of), slorigin_of⟩)
    (c_origin_of : PySem.W.codeIn K cdorigin_of "origin_of" = true)
    (k_origin_of : PySem.W.keepIn K (.ref forigin_of) = true)
    (a_kind_named : PySem.W.nsIn K mainGlobals "kind_named" = some (some (.ref fkind_named)))
    (l_kind_named : K.lookup fkind_named = some ⟨ockind_named, odkind_named, .func (PySem.W.fnOf "kind_named" "kind_named" (defArgs s_kind_named) (defBody s_kind_named) (defScope s_kind_named) .none kVkind_named dckind_named pmkind_named ankind_named cdkind_named ctkind_named), slkind_named⟩)
    (c_kind_named : PySem.W.codeIn K cdkind_named "kind_named" = true)
    (k_kind_named : PySem.W.keepIn K (.ref fkind_named) = true)
    (a_all_fields : PySem.W.nsIn K mainGlobals "all_fields" = some (some (.ref fall_fields)))
    (l_all_fields : K.lookup fall_fields = some ⟨ocall_fields, odall_fields, .func (PySem.W.fnOf "all_fields" "all_fields" (defArgs s_all_fields) (defBody s_all_fields) (defScope s_all_fields) .none kVall_fields dcall_fields pmall_fields anall_fields cdall_fields ctall_fields), slall_fields⟩)
    (c_all_fields : PySem.W.codeIn K cdall_fields "all_fields" = true)
    (k_all_fields : PySem.W.keepIn K (.ref fall_fields) = true)
    (a_is_under : PySem.W.nsIn K mainGlobals "is_under" = some (some (.ref fis_under)))
    (l_is_under : K.lookup fis_under = some ⟨ocis_under, odis_under, .func (PySem.W.fnOf "is_under" "is_under" (defArgs s_is_under) (defBody s_is_under) (defScope s_is_under) .none kVis_under dcis_under pmis_under anis_under cdis_under ctis_under), slis_under⟩)
    (c_is_under : PySem.W.codeIn K cdis_under "is_under" = true)
    (k_is_under : PySem.W.keepIn K (.ref fis_under) = true)
    (a_check_change : PySem.W.nsIn K mainGlobals "check_change" = some (some (.ref fcheck_change)))
    (l_check_change : K.lookup fcheck_change = some ⟨occheck_change, odcheck_change, .func (PySem.W.fnOf "check_change" "check_change" (defArgs s_check_change) (defBody s_check_change) (defScope s_check_change) .none kVcheck_change dccheck_change pmcheck_change ancheck_change cdcheck_change ctcheck_change), slcheck_change⟩)
    (c_check_change : PySem.W.codeIn K cdcheck_change "check_change" = true)
    (k_check_change : PySem.W.keepIn K (.ref fcheck_change) = true)
    (a_changed_kinds : PySem.W.nsIn K mainGlobals "changed_kinds" = some (some (.ref fchanged_kinds)))
    (l_changed_kinds : K.lookup fchanged_kinds = some ⟨occhanged_kinds, odchanged_kinds, .func (PySem.W.fnOf "changed_kinds" "changed_kinds" (defArgs s_changed_kinds) (defBody s_changed_kinds) (defScope s_changed_kinds) .none kVchanged_kinds dcchanged_kinds pmchanged_kinds anchanged_kinds cdchanged_kinds ctchanged_kinds), slchanged_kinds⟩)
    (c_changed_kinds : PySem.W.codeIn K cdchanged_kinds "changed_kinds" = true)
    (k_changed_kinds : PySem.W.keepIn K (.ref fchanged_kinds) = true)
    (a_plan_change : PySem.W.nsIn K mainGlobals "plan_change" = some (some (.ref fplan_change)))
    (l_plan_change : K.lookup fplan_change = some ⟨ocplan_change, odplan_change, .func (PySem.W.fnOf "plan_change" "plan_change" (defArgs s_plan_change) (defBody s_plan_change) (defScope s_plan_change) .none kVplan_change dcplan_change pmplan_change anplan_change cdplan_change ctplan_change), slplan_change⟩)
    (c_plan_change : PySem.W.codeIn K cdplan_change "plan_change" = true)
    (k_plan_change : PySem.W.keepIn K (.ref fplan_change) = true)
    (a__law_draw : PySem.W.nsIn K mainGlobals "_law_draw" = some (some (.ref f_law_draw)))
    (l__law_draw : K.lookup f_law_draw = some ⟨oc_law_draw, od_law_draw, .func (PySem.W.fnOf "_law_draw" "_law_draw" (defArgs s__law_draw) (defBody s__law_draw) (defScope s__law_draw) .none kV_law_draw dc_law_draw pm_law_draw an_law_draw cd_law_draw ct_law_draw), sl_law_draw⟩)
    (c__law_draw : PySem.W.codeIn K cd_law_draw "_law_draw" = true)
    (k__law_draw : PySem.W.keepIn K (.ref f_law_draw) = true)
    (a__law_kinds : PySem.W.nsIn K mainGlobals "_law_kinds" = some (some (.ref f_law_kinds)))
    (l__law_kinds : K.lookup f_law_kinds = some ⟨oc_law_kinds, od_law_kinds, .func (PySem.W.fnOf "_law_kinds" "_law_kinds" (defArgs s__law_kinds) (defBody s__law_kinds) (defScope s__law_kinds) .none kV_law_kinds dc_law_kinds pm_law_kinds an_law_kinds cd_law_kinds ct_law_kinds), sl_law_kinds⟩)
    (c__law_kinds : PySem.W.codeIn K cd_law_kinds "_law_kinds" = true)
    (k__law_kinds : PySem.W.keepIn K (.ref f_law_kinds) = true)
    (a__law_all : PySem.W.nsIn K mainGlobals "_law_all" = some (some (.ref f_law_all)))
    (l__law_all : K.lookup f_law_all = some ⟨oc_law_all, od_law_all, .func (PySem.W.fnOf "_law_all" "_law_all" (defArgs s__law_all) (defBody s__law_all) (defScope s__law_all) .none kV_law_all dc_law_all pm_law_all an_law_all cd_law_all ct_law_all), sl_law_all⟩)
    (c__law_all : PySem.W.codeIn K cd_law_all "_law_all" = true)
    (k__law_all : PySem.W.keepIn K (.ref f_law_all) = true)
    (a__law_under : PySem.W.nsIn K mainGlobals "_law_under" = some (some (.ref f_law_under)))
    (l__law_under : K.lookup f_law_under = some ⟨oc_law_under, od_law_under, .func (PySem.W.fnOf "_law_under" "_law_under" (defArgs s__law_under) (defBody s__law_under) (defScope s__law_under) .none kV_law_under dc_law_under pm_law_under an_law_under cd_law_under ct_law_under), sl_law_under⟩)
    (c__law_under : PySem.W.codeIn K cd_law_under "_law_under" = true)
    (k__law_under : PySem.W.keepIn K (.ref f_law_under) = true)
    (a__law_good : PySem.W.nsIn K mainGlobals "_law_good" = some (some (.ref f_law_good)))
    (l__law_good : K.lookup f_law_good = some ⟨oc_law_good, od_law_good, .func (PySem.W.fnOf "_law_good" "_law_good" (defArgs s__law_good) (defBody s__law_good) (defScope s__law_good) .none kV_law_good dc_law_good pm_law_good an_law_good cd_law_good ct_law_good), sl_law_good⟩)
    (c__law_good : PySem.W.codeIn K cd_law_good "_law_good" = true)
    (k__law_good : PySem.W.keepIn K (.ref f_law_good) = true)
    (a__law_why : PySem.W.nsIn K mainGlobals "_law_why" = some (some (.ref f_law_why)))
    (l__law_why : K.lookup f_law_why = some ⟨oc_law_why, od_law_why, .func (PySem.W.fnOf "_law_why" "_law_why" (defArgs s__law_why) (defBody s__law_why) (defScope s__law_why) .none kV_law_why dc_law_why pm_law_why an_law_why cd_law_why ct_law_why), sl_law_why⟩)
    (c__law_why : PySem.W.codeIn K cd_law_why "_law_why" = true)
    (k__law_why : PySem.W.keepIn K (.ref f_law_why) = true)
    (a__law_behind : PySem.W.nsIn K mainGlobals "_law_behind" = some (some (.ref f_law_behind)))
    (l__law_behind : K.lookup f_law_behind = some ⟨oc_law_behind, od_law_behind, .func (PySem.W.fnOf "_law_behind" "_law_behind" (defArgs s__law_behind) (defBody s__law_behind) (defScope s__law_behind) .none kV_law_behind dc_law_behind pm_law_behind an_law_behind cd_law_behind ct_law_behind), sl_law_behind⟩)
    (c__law_behind : PySem.W.codeIn K cd_law_behind "_law_behind" = true)
    (k__law_behind : PySem.W.keepIn K (.ref f_law_behind) = true)
    (a__law_planned : PySem.W.nsIn K mainGlobals "_law_planned" = some (some (.ref f_law_planned)))
    (l__law_planned : K.lookup f_law_planned = some ⟨oc_law_planned, od_law_planned, .func (PySem.W.fnOf "_law_planned" "_law_planned" (defArgs s__law_planned) (defBody s__law_planned) (defScope s__law_planned) .none kV_law_planned dc_law_planned pm_law_planned an_law_planned cd_law_planned ct_law_planned), sl_law_planned⟩)
    (c__law_planned : PySem.W.codeIn K cd_law_planned "_law_planned" = true)
    (k__law_planned : PySem.W.keepIn K (.ref f_law_planned) = true)
    (a__law_due : PySem.W.nsIn K mainGlobals "_law_due" = some (some (.ref f_law_due)))
    (l__law_due : K.lookup f_law_due = some ⟨oc_law_due, od_law_due, .func (PySem.W.fnOf "_law_due" "_law_due" (defArgs s__law_due) (defBody s__law_due) (defScope s__law_due) .none kV_law_due dc_law_due pm_law_due an_law_due cd_law_due ct_law_due), sl_law_due⟩)
    (c__law_due : PySem.W.codeIn K cd_law_due "_law_due" = true)
    (k__law_due : PySem.W.keepIn K (.ref f_law_due) = true)
    (a_law : PySem.W.nsIn K mainGlobals "law" = some (some (.ref flaw)))
    (l_law : K.lookup flaw = some ⟨oclaw, odlaw, .func (PySem.W.fnOf "law" "law" (defArgs s_law) (defBody s_law) (defScope s_law) .none kVlaw dclaw pmlaw anlaw cdlaw ctlaw), sllaw⟩)
    (c_law : PySem.W.codeIn K cdlaw "law" = true)
    (k_law : PySem.W.keepIn K (.ref flaw) = true)
    (qem_BB : PySem.W.exmOne K (.ref C_BadClass) (.ref C_BadClass) = some true) : Wd l.prog K mg :=
  { n_all := PySem.W.mg_none_of X G z_all,
    n_int := PySem.W.mg_none_of X G z_int,
    n_len := PySem.W.mg_none_of X G z_len,
    n_list := PySem.W.mg_none_of X G z_list,
    n_range := PySem.W.mg_none_of X G z_range,
    n_repr := PySem.W.mg_none_of X G z_repr,
    n_set := PySem.W.mg_none_of X G z_set,
    n_str := PySem.W.mg_none_of X G z_str,
    n_tuple := PySem.W.mg_none_of X G z_tuple,
    a_KERNEL := a_KERNEL, g_KERNEL := PySem.W.mg_of X G c_KERNEL,
    tp_KERNEL := fun _ => Or.inr ⟨_, _, _, tl_KERNEL, rfl, rfl, (by show 15 ≤ sizeLine; decide), (.cons ⟨_, by rw [(show (PySem.Str.ofString "Object") = T [79, 98, 106, 101, 99, 116] by decide +kernel)]⟩ (.cons ⟨_, by rw [(show (PySem.Str.ofString "Class") = T [67, 108, 97, 115, 115] by decide +kernel)]⟩ (.cons ⟨_, by rw [(show (PySem.Str.ofString "Undefined") = T [85, 110, 100, 101, 102, 105, 110, 101, 100] by decide +kernel)]⟩ (.cons ⟨_, by rw [(show (PySem.Str.ofString "True") = T [84, 114, 117, 101] by decide +kernel)]⟩ (.cons ⟨_, by rw [(show (PySem.Str.ofString "False") = T [70, 97, 108, 115, 101] by decide +kernel)]⟩ (.cons ⟨_, by rw [(show (PySem.Str.ofString "Integer") = T [73, 110, 116, 101, 103, 101, 114] by decide +kernel)]⟩ (.cons ⟨_, by rw [(show (PySem.Str.ofString "Symbol") = T [83, 121, 109, 98, 111, 108] by decide +kernel)]⟩ (.cons ⟨_, by rw [(show (PySem.Str.ofString "Array") = T [65, 114, 114, 97, 121] by decide +kernel)]⟩ (.cons ⟨_, by rw [(show (PySem.Str.ofString "Association") = T [65, 115, 115, 111, 99, 105, 97, 116, 105, 111, 110] by decide +kernel)]⟩ (.cons ⟨_, by rw [(show (PySem.Str.ofString "Method") = T [77, 101, 116, 104, 111, 100] by decide +kernel)]⟩ (.cons ⟨_, by rw [(show (PySem.Str.ofString "Code") = T [67, 111, 100, 101] by decide +kernel)]⟩ (.cons ⟨_, by rw [(show (PySem.Str.ofString "Block") = T [66, 108, 111, 99, 107] by decide +kernel)]⟩ (.cons ⟨_, by rw [(show (PySem.Str.ofString "Context") = T [67, 111, 110, 116, 101, 120, 116] by decide +kernel)]⟩ (.cons ⟨_, by rw [(show (PySem.Str.ofString "Process") = T [80, 114, 111, 99, 101, 115, 115] by decide +kernel)]⟩ (.cons ⟨_, by rw [(show (PySem.Str.ofString "Semaphore") = T [83, 101, 109, 97, 112, 104, 111, 114, 101] by decide +kernel)]⟩ .nil)))))))))))))))⟩,
    t_MOST_FIELDS := t_MOST_FIELDS, g_MOST_FIELDS := PySem.W.mg_of X G c_MOST_FIELDS,
    a_RESERVED := a_RESERVED, g_RESERVED := PySem.W.mg_of X G c_RESERVED,
    tp_RESERVED := fun _ => Or.inr ⟨_, _, _, tl_RESERVED, rfl, rfl, (by show 5 ≤ sizeLine; decide), (.cons ⟨_, by rw [(show (PySem.Str.ofString "nil") = T [110, 105, 108] by decide +kernel)]⟩ (.cons ⟨_, by rw [(show (PySem.Str.ofString "true") = T [116, 114, 117, 101] by decide +kernel)]⟩ (.cons ⟨_, by rw [(show (PySem.Str.ofString "false") = T [102, 97, 108, 115, 101] by decide +kernel)]⟩ (.cons ⟨_, by rw [(show (PySem.Str.ofString "self") = T [115, 101, 108, 102] by decide +kernel)]⟩ (.cons ⟨_, by rw [(show (PySem.Str.ofString "super") = T [115, 117, 112, 101, 114] by decide +kernel)]⟩ .nil)))))⟩,
    c_BadClass := C_BadClass, g_BadClass := PySem.W.mg_of X G cl_BadClass,
    c_Kind := C_Kind, g_Kind := PySem.W.mg_of X G cl_Kind,
    C_Kind := ⟨pg_Kind, hd_Kind, po_Kind, sa_Kind⟩,
    na_Kind_name := na_Kind_name,
    na_Kind_superclass := na_Kind_superclass,
    na_Kind_fields := na_Kind_fields,
    c_Change := C_Change, g_Change := PySem.W.mg_of X G cl_Change,
    C_Change := ⟨pg_Change, hd_Change, po_Change, sa_Change⟩,
    na_Change_name := na_Change_name,
    na_Change_old := na_Change_old,
    na_Change_new := na_Change_new,
    na_Change_origins := na_Change_origins,
    X_BadClass := ⟨⟨_, _, _, _, _, _, _, _, _, _, _, _, _, _, _, xl_BadClass, xr_BadClass⟩, xs_BadClass, xe_BadClass, xt_BadClass, xk_BadClass⟩,
    i_BadClass := ⟨a_BadClass___init__, k_BadClass___init__⟩,
    cc_BadClass := ccBadClass___init__, cda_BadClass := cdaBadClass___init__,
    S_BadClass := { ox := ⟨⟨_, _, _, _, _, _, _, _, _, _, _, _, _, _, _, xl_BadClass, xr_BadClass⟩, xs_BadClass, xe_BadClass, xt_BadClass, xk_BadClass⟩, code := ⟨_, _, _, _, _, _, x1_BadClass___init__, x2_BadClass___init__, x3_BadClass___init__⟩, cell := ⟨_, _, _, x4_BadClass___init__⟩, cls := ⟨_, by unfold PySem.W.clsIn; rw [xl_BadClass] <;> rfl⟩, sub := xm_BadClass, init := xi_BadClass, isB := xb_BadClass, third := z_third, mgS := PySem.W.mg_none_of X G z_super, hks := by decide +kernel, hkc := by decide +kernel, htop := z_top },
    f_BadClass___init__ := fBadClass___init__, fd_BadClass___init__ := _, L_BadClass := ⟨_, _, _, _, _, _, _, _, l_BadClass___init__, rfl, c_BadClass___init__⟩,
    E_BadClass := ⟨⟨⟨_, _, _, _, _, _, _, _, _, _, _, _, _, _, _, xl_BadClass, xr_BadClass⟩, xs_BadClass, xe_BadClass, xt_BadClass, xk_BadClass⟩, eg_BadClass, ek_BadClass, ed_BadClass, ea_BadClass, z_sg, z_st, em_BadClass⟩,
    xn_BadClass_why := xn_BadClass_why,
    b_BadClass___init__ := .all fun us hl => match us, hl with | [_, _], _ => rfl,
    f_is_letter := fis_letter, fd_is_letter := _, F_is_letter := fun_mk (st := s_is_letter) l_is_letter c_is_letter k_is_letter,
    g_is_letter := PySem.W.mg_of X G a_is_letter,
    b_is_letter := (fun_mk (st := s_is_letter) l_is_letter c_is_letter k_is_letter).binds (ps := ["char"]) fun _ _ _ _ _ _ us hl => match us, hl with | [_], _ => rfl,
    f_is_name := fis_name, fd_is_name := _, F_is_name := fun_mk (st := s_is_name) l_is_name c_is_name k_is_name,
    g_is_name := PySem.W.mg_of X G a_is_name,
    b_is_name := (fun_mk (st := s_is_name) l_is_name c_is_name k_is_name).binds (ps := ["text", "capital"]) fun _ _ _ _ _ _ us hl => match us, hl with | [_, _], _ => rfl,
    f_Kind___init__ := fKind___init__, fd_Kind___init__ := _, F_Kind___init__ := fun_mk (st := s_Kind___init__) l_Kind___init__ c_Kind___init__ k_Kind___init__,
    M_Kind := ⟨mk_Kind, a_Kind___init__, fn_Kind___init__, kp_Kind⟩,
    b_Kind___init__ := (fun_mk (st := s_Kind___init__) l_Kind___init__ c_Kind___init__ k_Kind___init__).binds (ps := ["self", "name", "superclass", "fields"]) fun _ _ _ _ _ _ us hl => match us, hl with | [_, _, _, _], _ => rfl,
    f_Change___init__ := fChange___init__, fd_Change___init__ := _, F_Change___init__ := fun_mk (st := s_Change___init__) l_Change___init__ c_Change___init__ k_Change___init__,
    M_Change := ⟨mk_Change, a_Change___init__, fn_Change___init__, kp_Change⟩,
    b_Change___init__ := (fun_mk (st := s_Change___init__) l_Change___init__ c_Change___init__ k_Change___init__).binds (ps := ["self", "name", "old", "new"]) fun _ _ _ _ _ _ us hl => match us, hl with | [_, _, _, _], _ => rfl,
    f_origin_of := forigin_of, fd_origin_of := _, F_origin_of := fun_mk (st := s_origin_of) l_origin_of c_origin_of k_origin_of,
    g_origin_of := PySem.W.mg_of X G a_origin_of,
    b_origin_of := (fun_mk (st := s_origin_of) l_origin_of c_origin_of k_origin_of).binds (ps := ["old", "field"]) fun _ _ _ _ _ _ us hl => match us, hl with | [_, _], _ => rfl,
    f_kind_named := fkind_named, fd_kind_named := _, F_kind_named := fun_mk (st := s_kind_named) l_kind_named c_kind_named k_kind_named,
    g_kind_named := PySem.W.mg_of X G a_kind_named,
    b_kind_named := (fun_mk (st := s_kind_named) l_kind_named c_kind_named k_kind_named).binds (ps := ["kinds", "name"]) fun _ _ _ _ _ _ us hl => match us, hl with | [_, _], _ => rfl,
    f_all_fields := fall_fields, fd_all_fields := _, F_all_fields := fun_mk (st := s_all_fields) l_all_fields c_all_fields k_all_fields,
    g_all_fields := PySem.W.mg_of X G a_all_fields,
    b_all_fields := (fun_mk (st := s_all_fields) l_all_fields c_all_fields k_all_fields).binds (ps := ["kinds", "name"]) fun _ _ _ _ _ _ us hl => match us, hl with | [_, _], _ => rfl,
    f_is_under := fis_under, fd_is_under := _, F_is_under := fun_mk (st := s_is_under) l_is_under c_is_under k_is_under,
    g_is_under := PySem.W.mg_of X G a_is_under,
    b_is_under := (fun_mk (st := s_is_under) l_is_under c_is_under k_is_under).binds (ps := ["kinds", "name", "other"]) fun _ _ _ _ _ _ us hl => match us, hl with | [_, _, _], _ => rfl,
    f_check_change := fcheck_change, fd_check_change := _, F_check_change := fun_mk (st := s_check_change) l_check_change c_check_change k_check_change,
    g_check_change := PySem.W.mg_of X G a_check_change,
    b_check_change := (fun_mk (st := s_check_change) l_check_change c_check_change k_check_change).binds (ps := ["kinds", "name", "superclass", "fields"]) fun _ _ _ _ _ _ us hl => match us, hl with | [_, _, _, _], _ => rfl,
    f_changed_kinds := fchanged_kinds, fd_changed_kinds := _, F_changed_kinds := fun_mk (st := s_changed_kinds) l_changed_kinds c_changed_kinds k_changed_kinds,
    g_changed_kinds := PySem.W.mg_of X G a_changed_kinds,
    b_changed_kinds := (fun_mk (st := s_changed_kinds) l_changed_kinds c_changed_kinds k_changed_kinds).binds (ps := ["kinds", "name", "superclass", "fields"]) fun _ _ _ _ _ _ us hl => match us, hl with | [_, _, _, _], _ => rfl,
    f_plan_change := fplan_change, fd_plan_change := _, F_plan_change := fun_mk (st := s_plan_change) l_plan_change c_plan_change k_plan_change,
    g_plan_change := PySem.W.mg_of X G a_plan_change,
    b_plan_change := (fun_mk (st := s_plan_change) l_plan_change c_plan_change k_plan_change).binds (ps := ["kinds", "name", "superclass", "fields"]) fun _ _ _ _ _ _ us hl => match us, hl with | [_, _, _, _], _ => rfl,
    f__law_draw := f_law_draw, fd__law_draw := _, F__law_draw := fun_mk (st := s__law_draw) l__law_draw c__law_draw k__law_draw,
    g__law_draw := PySem.W.mg_of X G a__law_draw,
    b__law_draw := (fun_mk (st := s__law_draw) l__law_draw c__law_draw k__law_draw).binds (ps := ["_law_state", "_law_script", "_law_size"]) fun _ _ _ _ _ _ us hl => match us, hl with | [_, _, _], _ => rfl,
    f__law_kinds := f_law_kinds, fd__law_kinds := _, F__law_kinds := fun_mk (st := s__law_kinds) l__law_kinds c__law_kinds k__law_kinds,
    g__law_kinds := PySem.W.mg_of X G a__law_kinds,
    b__law_kinds := (fun_mk (st := s__law_kinds) l__law_kinds c__law_kinds k__law_kinds).binds (ps := ["_law_state", "_law_script"]) fun _ _ _ _ _ _ us hl => match us, hl with | [_, _], _ => rfl,
    f__law_all := f_law_all, fd__law_all := _, F__law_all := fun_mk (st := s__law_all) l__law_all c__law_all k__law_all,
    g__law_all := PySem.W.mg_of X G a__law_all,
    b__law_all := (fun_mk (st := s__law_all) l__law_all c__law_all k__law_all).binds (ps := ["_law_kinds_here", "_law_name"]) fun _ _ _ _ _ _ us hl => match us, hl with | [_, _], _ => rfl,
    f__law_under := f_law_under, fd__law_under := _, F__law_under := fun_mk (st := s__law_under) l__law_under c__law_under k__law_under,
    g__law_under := PySem.W.mg_of X G a__law_under,
    b__law_under := (fun_mk (st := s__law_under) l__law_under c__law_under k__law_under).binds (ps := ["_law_kinds_here", "_law_name", "_law_other"]) fun _ _ _ _ _ _ us hl => match us, hl with | [_, _, _], _ => rfl,
    f__law_good := f_law_good, fd__law_good := _, F__law_good := fun_mk (st := s__law_good) l__law_good c__law_good k__law_good,
    g__law_good := PySem.W.mg_of X G a__law_good,
    b__law_good := (fun_mk (st := s__law_good) l__law_good c__law_good k__law_good).binds (ps := ["_law_name"]) fun _ _ _ _ _ _ us hl => match us, hl with | [_], _ => rfl,
    f__law_why := f_law_why, fd__law_why := _, F__law_why := fun_mk (st := s__law_why) l__law_why c__law_why k__law_why,
    g__law_why := PySem.W.mg_of X G a__law_why,
    b__law_why := (fun_mk (st := s__law_why) l__law_why c__law_why k__law_why).binds (ps := ["_law_kinds_here", "_law_name", "_law_above", "_law_own"]) fun _ _ _ _ _ _ us hl => match us, hl with | [_, _, _, _], _ => rfl,
    f__law_behind := f_law_behind, fd__law_behind := _, F__law_behind := fun_mk (st := s__law_behind) l__law_behind c__law_behind k__law_behind,
    g__law_behind := PySem.W.mg_of X G a__law_behind,
    b__law_behind := (fun_mk (st := s__law_behind) l__law_behind c__law_behind k__law_behind).binds (ps := ["_law_kinds_here", "_law_name", "_law_above", "_law_own"]) fun _ _ _ _ _ _ us hl => match us, hl with | [_, _, _, _], _ => rfl,
    f__law_planned := f_law_planned, fd__law_planned := _, F__law_planned := fun_mk (st := s__law_planned) l__law_planned c__law_planned k__law_planned,
    g__law_planned := PySem.W.mg_of X G a__law_planned,
    b__law_planned := (fun_mk (st := s__law_planned) l__law_planned c__law_planned k__law_planned).binds (ps := ["_law_kinds_here", "_law_name", "_law_above", "_law_own"]) fun _ _ _ _ _ _ us hl => match us, hl with | [_, _, _, _], _ => rfl,
    f__law_due := f_law_due, fd__law_due := _, F__law_due := fun_mk (st := s__law_due) l__law_due c__law_due k__law_due,
    g__law_due := PySem.W.mg_of X G a__law_due,
    b__law_due := (fun_mk (st := s__law_due) l__law_due c__law_due k__law_due).binds (ps := ["_law_kinds_here", "_law_name", "_law_above", "_law_own"]) fun _ _ _ _ _ _ us hl => match us, hl with | [_, _, _, _], _ => rfl,
    f_law := flaw, fd_law := _, F_law := fun_mk (st := s_law) l_law c_law k_law,
    g_law := PySem.W.mg_of X G a_law,
    b_law := (fun_mk (st := s_law) l_law c_law k_law).binds (ps := ["_law_script"]) fun _ _ _ _ _ _ us hl => match us, hl with | [_], _ => rfl,
    em_BB := qem_BB }
section
variable {P : Program} {w : World} {K : PySem.W.Frag} {mg : Str → Option Value} {base : Heap}
theorem ok_BadClass___init__ (W : Wd P K mg) : FnOk P w K mg base CX0 1 W.f_BadClass___init__ W.fd_BadClass___init__ ["self", "why"] (sp_exc1 W.c_BadClass "why") := by
  obtain ⟨oc, od, kV, dc, pm, an, ct, osl, lk, efd, hcd⟩ := W.L_BadClass
  rw [efd] at lk ⊢
  refine fn_sup lk hcd ns_BadClass___init__ W.S_BadClass rfl rfl (pl := fun env => plainOf _ env) (fun L => rfl) (fun env => rfl) (fun env => rfl) (fun L => rfl) (fun L => rfl) (fun vs H Q E h => ?_) (fun A outer s H vs Q E hr h => ?_)
  · obtain ⟨a, x, rfl, _⟩ := h
    rfl
  · obtain ⟨a, x, rfl, hx, ha, k⟩ := h
    refine ⟨_, _, (pa_cons (pe_callTy call_strU (by rfl) W.n_str bb_str (pa_cons (pv 1) pa_nil)) pa_nil), pss_one (ps_ost (pv 0) (pv 1)), ?_⟩
    refine ⟨a, rfl, ha, ?_⟩
    have fin : sizeLine ≥ 1 := (by show 1 ≤ sizeLine; decide)
    cases x with
    | int i => exact ⟨_, rfl, hx, fin, ha, _, rfl, _, rfl, a, _, rfl, W.X_BadClass, W.xn_BadClass_why, Or.inl ⟨ha, fun dx h1 h2 => k dx h1 h2⟩⟩
    | str z => exact ⟨_, rfl, fin, ha, _, rfl, _, rfl, a, _, rfl, W.X_BadClass, W.xn_BadClass_why, Or.inl ⟨ha, fun dx h1 h2 => k dx h1 h2⟩⟩
    | _ => exact hx.elim
end

end LX
namespace LX
open PySem PySem.Spec PyProof.Rows L2 NdefX
set_option hygiene false in
local macro_rules | `(tactic| k_memK) => `(tactic| first | exact W.na_Kind_name | exact W.na_Kind_superclass | exact W.na_Kind_fields | exact W.na_Change_name | exact W.na_Change_old | exact W.na_Change_new | exact W.na_Change_origins)
set_option hygiene false in
local macro_rules | `(tactic| k_ownIn) => `(tactic| first | exact W.C_Kind | exact W.C_Change)
local macro_rules | `(tactic| none_booked) => `(tactic| first | assumption | (refine Fr.g0 (by assumption) ?_; none_booked))
local macro_rules | `(tactic| one_sign) => `(tactic| repeat (first
  | refine Stp.h ?_
  | ((with_reducible refine' z_fld1 ?k0 ?k1 ?k2 ?k3 ?_); (case k0 => none_booked); (case k1 => k_ownIn); (case k2 => k_memK); (case k3 => rfl))
  | ((with_reducible refine' z_meth1 ?k0 ?k1 ?_); (case k0 => none_booked); (case k1 => rfl))
  | ((with_reducible refine' z_bmL ?k0 ?_); (case k0 => none_booked))
  | ((with_reducible refine' z_lenL ?k0 ?_); (case k0 => none_booked))
  | ((with_reducible refine' z_lenT ?k0 ?_); (case k0 => none_booked))
  | ((with_reducible refine' z_lenD ?k0 ?_); (case k0 => none_booked))
  | ((with_reducible refine' z_truL ?k0 ?_); (case k0 => none_booked))
  | ((with_reducible refine' z_truD ?k0 ?_); (case k0 => none_booked))
  | ((with_reducible refine' z_truT ?k0 ?_); (case k0 => none_booked))
  | ((with_reducible refine' z_inDIP ?k0 ?_); (case k0 => none_booked))
  | ((with_reducible refine' z_inDIN ?k0 ?_); (case k0 => none_booked))
  | ((with_reducible refine' z_inDfP ?k0 ?_); (case k0 => none_booked))
  | ((with_reducible refine' z_inDfN ?k0 ?_); (case k0 => none_booked))
  | ((with_reducible refine' z_iList1 ?k0 ?_); (case k0 => none_booked))
  | ((with_reducible refine' z_isi0 ?k0 ?k1 ?k2 ?_); (case k0 => exact (ClsV.ty _)); (case k1 => exact (TyX.base (TyOf.lst (by none_booked)))); (case k2 => first | exact kt_list_int | exact kt_list_bool | exact kt_list_str | exact kt_list_list | exact kt_list_tuple | exact kt_list_dict))
  | ((with_reducible refine' z_rI ?k0 ?_); (case k0 => first | exact (by decide : (0 : Int) < _) | exact ⟨by decide, by decide⟩ | exact ⟨by decide, by decide, by decide⟩ | (show (0 : Int) < _; omega)))
  | ((with_reducible refine' z_mulI ?k0 ?_); (case k0 => first | exact Or.inr ⟨by decide, by decide⟩ | exact Or.inl ⟨by decide, by decide⟩ | exact Or.inl ⟨by omega, by omega⟩ | exact Or.inr ⟨by omega, by omega⟩))))
local macro_rules | `(tactic| leaf_len) => `(tactic| (simp only [wipe, List.map_cons, List.map_nil, List.set_cons_zero, List.set_cons_succ]; one_sign; refine z_ok rfl ?_; one_sign))
/-- signs -/
def lowC (c : Nat) : Bool := decide (97 ≤ c) && decide (c ≤ 122)
def uppC (c : Nat) : Bool := decide (65 ≤ c) && decide (c ≤ 90)
def digC (c : Nat) : Bool := decide (48 ≤ c) && decide (c ≤ 57)
def letC (c : Nat) : Bool := lowC c || uppC c
def okC (c : Nat) : Bool := letC c || digC c
theorem s1_lt (a b : Nat) : decide (([a] : List Nat) < [b]) = decide (a < b) := by
  by_cases h : a < b
  · rw [decide_eq_true h, decide_eq_true]
    exact List.Lex.rel h
  · rw [decide_eq_false h, decide_eq_false]
    intro z
    cases z with
    | rel z => exact h z
    | cons z => cases z
theorem s1_le (a b : Nat) : (!decide (([b] : List Nat) < [a])) = decide (a ≤ b) := by
  rw [s1_lt]
  by_cases h : a ≤ b
  · rw [decide_eq_true h, decide_eq_false (by omega)]; rfl
  · rw [decide_eq_false h, decide_eq_true (by omega)]; rfl
theorem cpsT (l : List Nat) : (T l).cps.toList = l := by show l.toArray.toList = l; simp
theorem inVS (z : Str) (l : List Str) : inV (.str z) (l.map V.str) = decide (z ∈ l) := by
  induction l with
  | nil => rfl
  | cons m M ih =>
    have h1 : inV (.str z) ((m :: M).map V.str) = ((m == z) || inV (.str z) (M.map V.str)) := rfl
    rw [h1, ih]
    by_cases h : m = z
    · subst h; simp
    · rw [beq_eq_false_iff_ne.mpr h]
      have : (z ∈ m :: M) ↔ z ∈ M := by rw [List.mem_cons]; exact ⟨fun q => q.resolve_left fun e => h e.symm, Or.inr⟩
      simp [this]
def RESL : List Str := [T [110, 105, 108], T [116, 114, 117, 101], T [102, 97, 108, 115, 101], T [115, 101, 108, 102], T [115, 117, 112, 101, 114]]
/-- a field's name, by its signs -/
def gdN (l : List Nat) : Bool := decide (l.length ≠ 0) && decide (l.length ≤ 32) && !decide (T l ∈ RESL) && (match l with | [] => false | c :: _ => lowC c) && l.all okC
theorem z_ch2 {p : Bool} {b c : Nat} {σ : L2.St} {H : Hp} {Q : VK} (k : Q (.bl (p && decide (c ≤ b))) H) : if p = true then tC (.str (T [b])) σ H (fun u H4 => rLeU (.str (T [c])) u H4 Q) else Q (.bl false) H := by
  cases p with
  | false => exact k
  | true =>
    refine iteT ?_
    show Q (.bl (!decide ((T [b]).cps.toList < (T [c]).cps.toList))) H
    rw [cpsT, cpsT, s1_le]
    exact k
theorem z_ch1 {a c : Nat} {σ : L2.St} {H : Hp} {t : TE} {A : Bool → Hp → Prop} (k : A (decide (a ≤ c)) H) : A (!decide ((T [c]).cps.toList < (T [a]).cps.toList)) H := by
  rw [cpsT, cpsT, s1_le]
  exact k
theorem iteB {b : Bool} {A B : Prop} (h1 : b = true → A) (h2 : ¬ b = true → B) : if b = true then A else B := by
  by_cases h : b = true
  · rw [if_pos h]; exact h1 h
  · rw [if_neg h]; exact h2 h
section
variable {P : Program} {w : World} {K : PySem.W.Frag} {mg : Str → Option Value} {base : Heap}
def sp_let : Sp := fun vs H Q _ => ∃ c, vs = [.str (T [c])] ∧ Q (.bl (letC c)) H
theorem ok_is_letter (W : Wd P K mg) : FnOk P w K mg base CX0 1 W.f_is_letter W.fd_is_letter ["char"] sp_let := by
  refine W.F_is_letter.ok sc_is_letter (fun vs H Q E h => by obtain ⟨c, rfl, k⟩ := h; rfl) (fun cdv A outer s H vs Q E hr h => ?_)
  obtain ⟨c, rfl, k⟩ := h
  have hu1 := hu_of hr
  have hu64 := hu64_of hr
  refine ⟨_, (pss_one (ps_ret (pe_or (pe_chain op_leU op_leU (pe_strT (show (PySem.Str.ofString "a") = T [97] by decide +kernel)) (pv 0) (pe_strT (show (PySem.Str.ofString "z") = T [122] by decide +kernel))) (pe_one (pe_chain op_leU op_leU (pe_strT (show (PySem.Str.ofString "A") = T [65] by decide +kernel)) (pv 0) (pe_strT (show (PySem.Str.ofString "Z") = T [90] by decide +kernel))))))), ?_⟩
  refine z_start (σ := [some _]) rfl ?_
  one_sign
  simp only [cpsT, s1_le]
  refine z_ch2 ?_
  one_sign
  refine iteB (fun h1 => ?_) (fun h1 => ?_)
  · one_sign
    rw [show letC c = true from by unfold letC lowC; rw [h1]; rfl] at k
    exact k
  one_sign
  simp only [cpsT, s1_le]
  refine z_ch2 ?_
  rw [show letC c = (decide (65 ≤ c) && decide (c ≤ 90)) from by unfold letC lowC uppC; rw [Bool.eq_false_iff.mpr h1]; rfl] at k
  exact k
def sp_isn : Sp := fun vs H Q _ => ∃ l, vs = [.str (T l), .bl false] ∧ l.length ≤ 1000 ∧ ∀ H', Fr [] H H' → Q (.bl (gdN l)) H'
theorem Tlen (l : List Nat) : (T l).length = l.length := by show l.toArray.size = _; simp
theorem sz1000 {n : Nat} (h : n ≤ 1000) : n ≤ sizeLine := by rw [sizeLine_eq]; omega
theorem z_inK {H : Hp} {p : Addr} {z : Str} {xs : List V} {Q : VK} (h1 : SqT K H p xs) (h3 : xs.all flatV = true) (h : Q (.bl (inV (.str z) xs)) H) : rInU K id (.str z) (.ref p) H Q := Or.inl ⟨xs, Or.inr h1, rfl, h3, h⟩
def gdA (l : List Nat) : Bool := l.all okC
theorem T_nil_iff (l : List Nat) : T l = T [] ↔ l = [] := ⟨fun h => T_inj h, fun h => by rw [h]⟩
theorem okC_or (c : Nat) : okC c = (letC c || (decide (48 ≤ c) && decide (c ≤ 57))) := rfl
theorem gdN_cons (c : Nat) (r : List Nat) : gdN (c :: r) = (decide ((c :: r).length ≤ 32) && !decide (T (c :: r) ∈ RESL) && lowC c && (c :: r).all okC) := by
  unfold gdN
  rw [decide_eq_true (show (c :: r).length ≠ 0 by simp), Bool.true_and]
theorem ok_is_name (W : Wd P K mg) : FnOk P w K mg base CX0 2 W.f_is_name W.fd_is_name ["text", "capital"] sp_isn := by
  refine W.F_is_name.ok sc_is_name (fun vs H Q E h => by obtain ⟨l, rfl, hl, k⟩ := h; rfl) (fun cdv A outer s H vs Q E hr h => ?_)
  obtain ⟨l, rfl, hl, k⟩ := h
  have hu1 := hu_of hr
  have hu64 := hu64_of hr
  refine ⟨_, (pss_cons (ps_if (PW.pt (pw_or (pt_cmpR (op_eqU hu64) (pv 0) (pe_strT (show (PySem.Str.ofString "") = T [] by decide +kernel)) (by first | exact nomark _ | rfl)) (pw_or (pt_cmpR op_gtU (pe_callB call_lenU (by rfl) W.n_len bb_len (pa_cons (pv 0) pa_nil)) pe_int (by first | exact nomark _ | rfl)) (pw_or (pt_cmpR (op_inU hu1) (pv 0) (pe_gr rfl W.g_RESERVED) (by first | exact nomark _ | rfl)) (pw_or (pt_not (pt_truth (pe_call (ok_is_letter W) (hr.mono (by decide)) rfl W.g_is_letter W.F_is_letter.kp W.b_is_letter .nil pass0 (pa_cons (pe_ix (ix_U hu1) (pv 0) pe_int (fun _ _ => rfl)) pa_nil)) (by intro _; rfl))) (pw_or1 (pt_cmpR (op_neU hu64) (pe_cmpR op_ltU (pe_ix (ix_U hu1) (pv 0) pe_int (fun _ _ => rfl)) (pe_strT (show (PySem.Str.ofString "a") = T [97] by decide +kernel)) (by first | exact nomark _ | rfl)) (pv 1) (by first | exact nomark _ | rfl)))))))) (pss_one (ps_ret pe_bl)) pss_nil)
      (pss_one (ps_ret (pe_callB (cr_all rfl) (by rfl) W.n_all bb_all (pa_cons (pe_lc (own := [("char", 2)]) (g := gName 2) (tt := tYes) rfl sc_is_name.nd (pi_str (pv 0)) (blkOk_by (N := N_is_name) (sc := defScope s_is_name) (by decide +kernel)) (fun _ _ _ _ _ => (pg_name (i := 2) sc_is_name.nd rfl (by first | exact Or.inl rfl | exact Or.inr rfl))) (fun _ _ _ _ _ => pts_nil) (fun _ _ _ _ _ => (pe_or (pe_call (ok_is_letter W) (hr.mono (by decide)) rfl W.g_is_letter W.F_is_letter.kp W.b_is_letter .nil pass0 (pa_cons (pv 2) pa_nil)) (pe_one (pe_chain op_leU op_leU (pe_strT (show (PySem.Str.ofString "0") = T [48] by decide +kernel)) (pv 2) (pe_strT (show (PySem.Str.ofString "9") = T [57] by decide +kernel))))))) pa_nil))))), ?_⟩
  refine z_start (σ := [some _, some _, none]) rfl ?_
  one_sign
  refine iteD (fun h => ?_) (fun h => ?_)
  · rw [T_nil_iff] at h
    subst h
    one_sign
    exact k H Fr.rfl'
  have hne : l ≠ [] := fun z => h ((T_nil_iff l).mpr z)
  obtain ⟨c, r, rfl⟩ : ∃ c r, l = c :: r := by
    cases l with
    | nil => exact absurd rfl hne
    | cons c r => exact ⟨c, r, rfl⟩
  one_sign
  refine z_lenS (by rw [Tlen]; exact sz1000 hl) ?_
  one_sign
  rw [Tlen]
  refine iteD (fun h2 => ?_) (fun h2 => ?_)
  · one_sign
    have e : gdN (c :: r) = false := by unfold gdN; rw [decide_eq_false (show ¬ (c :: r).length ≤ 32 by omega)]; simp
    rw [e] at k
    exact k H Fr.rfl'
  have h2' : (c :: r).length ≤ 32 := by omega
  one_sign
  refine z_inK (xs := RESL.map V.str) (W.tp_RESERVED _) rfl ⟨_, rfl, ?_⟩
  rw [inVS]
  refine iteD (fun h3 => ?_) (fun h3 => ?_)
  · one_sign
    have e : gdN (c :: r) = false := by unfold gdN; rw [decide_eq_true h3]; simp
    rw [e] at k
    exact k H Fr.rfl'
  one_sign
  refine z_ixS (i := 0) (c := c) (by rw [Tlen]; exact sz1000 hl) (by rw [cpsT]; exact atI_nat (j := 0) rfl) ?_
  one_sign
  refine ⟨c, rfl, _, rfl, ?_⟩
  show if (!(letC c)) = true then _ else _
  cases hL : letC c with
  | false =>
    one_sign
    have e : gdN (c :: r) = false := by
      have : lowC c = false := by
        unfold letC at hL
        cases h : lowC c with
        | false => rfl
        | true => rw [h] at hL; exact hL
      rw [gdN_cons, this]; simp
    rw [e] at k
    exact k H Fr.rfl'
  | true =>
  one_sign
  refine z_ixS (i := 0) (c := c) (by rw [Tlen]; exact sz1000 hl) (by rw [cpsT]; exact atI_nat (j := 0) rfl) ?_
  one_sign
  simp only [cpsT, s1_lt]
  refine ⟨rfl, _, rfl, ?_⟩
  rw [B_dec]
  by_cases h4 : c < 97
  · rw [decide_eq_true h4]
    refine iteT ?_
    one_sign
    have e : gdN (c :: r) = false := by rw [gdN_cons, show lowC c = false from by unfold lowC; rw [decide_eq_false (by omega)]; rfl]; simp
    rw [e] at k
    exact k H Fr.rfl'
  rw [decide_eq_false h4]
  have hlow : lowC c = true := by
    unfold letC at hL
    unfold lowC uppC at *
    rw [show (decide (65 ≤ c) && decide (c ≤ 90)) = false from by
      by_cases h5 : c ≤ 90
      · omega
      · rw [decide_eq_false h5, Bool.and_false], Bool.or_false] at hL
    exact hL
  have e : gdN (c :: r) = (c :: r).all okC := by rw [gdN_cons, decide_eq_true h2', decide_eq_false h3, hlow]; simp
  rw [e] at k
  refine iteF ?_
  one_sign
  refine z_lcS (fun i xs _ => xs = ((c :: r).take i).map fun c => V.bl (okC c)) (fun R H' _ _ => rfl) (fun R i x xs H' hR hi hil hxl hP hX f => ?_) (fun R xs H' hR hP hxl hX f => ?_)
  · leaf_len
    refine ⟨x, rfl, ?_⟩
    have next : ∀ H4, Fr [] H' H4 → H4 R = some (.lst xs) → LcY H R (fun i xs _ => xs = ((c :: r).take i).map fun c => V.bl (okC c)) (i + 1) (.bl (okC x)) H4 := fun H4 f4 hX4 =>
      z_lcY hR hX4 (f.trans f4) hxl (by have := hil; rw [sizeLine_eq]; omega) fun H5 _ _ _ => by
        rw [hP, List.take_succ, hi, List.map_append]
        rfl
    refine ⟨_, rfl, ?_⟩
    cases hLx : letC x with
    | true =>
      refine iteT ?_
      rw [show okC x = true from by unfold okC; rw [hLx]; rfl] at next
      exact next H' Fr.rfl' hX
    | false =>
      refine iteF ?_
      one_sign
      simp only [cpsT, s1_le]
      refine z_ch2 ?_
      rw [show okC x = (decide (48 ≤ x) && decide (x ≤ 57)) from by unfold okC digC; rw [hLx]; rfl] at next
      exact next H' Fr.rfl' hX
  · one_sign
    refine ⟨R, (c :: r).map okC, rfl, SqL.of (by rw [hX, hP, List.take_length, List.map_map]; rfl), ?_⟩
    rw [List.all_map]
    exact k H' f
end

end LX
namespace LX
open PySem PySem.Spec PyProof.Rows L2 NdefX
set_option hygiene false in
local macro_rules | `(tactic| k_memK) => `(tactic| first | exact W.na_Kind_name | exact W.na_Kind_superclass | exact W.na_Kind_fields | exact W.na_Change_name | exact W.na_Change_old | exact W.na_Change_new | exact W.na_Change_origins)
set_option hygiene false in
local macro_rules | `(tactic| k_ownIn) => `(tactic| first | exact W.C_Kind | exact W.C_Change)
local macro_rules | `(tactic| none_booked) => `(tactic| first | assumption | (refine Fr.g0 (by assumption) ?_; none_booked))
local macro_rules | `(tactic| one_sign) => `(tactic| repeat (first
  | refine Stp.h ?_
  | ((with_reducible refine' z_fld1 ?k0 ?k1 ?k2 ?k3 ?_); (case k0 => none_booked); (case k1 => k_ownIn); (case k2 => k_memK); (case k3 => rfl))
  | ((with_reducible refine' z_meth1 ?k0 ?k1 ?_); (case k0 => none_booked); (case k1 => rfl))
  | ((with_reducible refine' z_bmL ?k0 ?_); (case k0 => none_booked))
  | ((with_reducible refine' z_lenL ?k0 ?_); (case k0 => none_booked))
  | ((with_reducible refine' z_lenT ?k0 ?_); (case k0 => none_booked))
  | ((with_reducible refine' z_lenD ?k0 ?_); (case k0 => none_booked))
  | ((with_reducible refine' z_truL ?k0 ?_); (case k0 => none_booked))
  | ((with_reducible refine' z_truD ?k0 ?_); (case k0 => none_booked))
  | ((with_reducible refine' z_truT ?k0 ?_); (case k0 => none_booked))
  | ((with_reducible refine' z_inDIP ?k0 ?_); (case k0 => none_booked))
  | ((with_reducible refine' z_inDIN ?k0 ?_); (case k0 => none_booked))
  | ((with_reducible refine' z_inDfP ?k0 ?_); (case k0 => none_booked))
  | ((with_reducible refine' z_inDfN ?k0 ?_); (case k0 => none_booked))
  | ((with_reducible refine' z_iList1 ?k0 ?_); (case k0 => none_booked))
  | ((with_reducible refine' z_isi0 ?k0 ?k1 ?k2 ?_); (case k0 => exact (ClsV.ty _)); (case k1 => exact (TyX.base (TyOf.lst (by none_booked)))); (case k2 => first | exact kt_list_int | exact kt_list_bool | exact kt_list_str | exact kt_list_list | exact kt_list_tuple | exact kt_list_dict))
  | ((with_reducible refine' z_rI ?k0 ?_); (case k0 => first | exact (by decide : (0 : Int) < _) | exact ⟨by decide, by decide⟩ | exact ⟨by decide, by decide, by decide⟩ | (show (0 : Int) < _; omega)))
  | ((with_reducible refine' z_mulI ?k0 ?_); (case k0 => first | exact Or.inr ⟨by decide, by decide⟩ | exact Or.inl ⟨by decide, by decide⟩ | exact Or.inl ⟨by omega, by omega⟩ | exact Or.inr ⟨by omega, by omega⟩))))
local macro_rules | `(tactic| leaf_len) => `(tactic| (simp only [wipe, List.map_cons, List.map_nil, List.set_cons_zero, List.set_cons_succ]; one_sign; refine z_ok rfl ?_; one_sign))
theorem gdN_nil : gdN [] = false := rfl
theorem inVB (l : List Bool) : inV (.bl false) (l.map V.bl) = !(l.all id) := by
  induction l with
  | nil => rfl
  | cons m M ih =>
    have h1 : inV (.bl false) ((m :: M).map V.bl) = ((m == false) || inV (.bl false) (M.map V.bl)) := rfl
    rw [h1, ih]
    cases m <;> rfl
theorem flatB (l : List Bool) : (l.map V.bl).all flatV = true := by
  rw [List.all_map]; exact List.all_eq_true.mpr fun _ _ => rfl
theorem flatS (l : List Str) : (l.map V.str).all flatV = true := by
  rw [List.all_map]; exact List.all_eq_true.mpr fun _ _ => rfl
section
variable {P : Program} {w : World} {K : PySem.W.Frag} {mg : Str → Option Value} {base : Heap}
def sp_good : Sp := fun vs H Q _ => ∃ l, vs = [.str (T l)] ∧ l.length ≤ 1000 ∧ ∀ H', Fr [] H H' → Q (.bl (gdN l)) H'
theorem ok__law_good (W : Wd P K mg) : FnOk P w K mg base CX0 1 W.f__law_good W.fd__law_good ["_law_name"] sp_good := by
  refine W.F__law_good.ok sc__law_good (fun vs H Q E h => by obtain ⟨l, rfl, hl, k⟩ := h; rfl) (fun cdv A outer s H vs Q E hr h => ?_)
  obtain ⟨l, rfl, hl, k⟩ := h
  have hu1 := hu_of hr
  have hu64 := hu64_of hr
  refine ⟨_, (pss_cons (ps_if (PW.pt (pw_or (pt_cmpR (op_inU hu1) (pv 0) (pe_lst (pa_cons (pe_strT (show (PySem.Str.ofString "nil") = T [110, 105, 108] by decide +kernel)) (pa_cons (pe_strT (show (PySem.Str.ofString "true") = T [116, 114, 117, 101] by decide +kernel)) (pa_cons (pe_strT (show (PySem.Str.ofString "false") = T [102, 97, 108, 115, 101] by decide +kernel)) (pa_cons (pe_strT (show (PySem.Str.ofString "self") = T [115, 101, 108, 102] by decide +kernel)) (pa_cons (pe_strT (show (PySem.Str.ofString "super") = T [115, 117, 112, 101, 114] by decide +kernel)) pa_nil)))))) (by first | exact nomark _ | rfl)) (pw_or (pt_cmpR (op_eqU hu64) (pe_callB call_lenU (by rfl) W.n_len bb_len (pa_cons (pv 0) pa_nil)) pe_int (by first | exact nomark _ | rfl)) (pw_or (pt_cmpR op_gtU (pe_callB call_lenU (by rfl) W.n_len bb_len (pa_cons (pv 0) pa_nil)) pe_int (by first | exact nomark _ | rfl)) (pw_or1 (pt_not (pt_chain op_leU op_leU (pe_strT (show (PySem.Str.ofString "a") = T [97] by decide +kernel)) (pe_ix (ix_U hu1) (pv 0) pe_int (fun _ _ => rfl)) (pe_strT (show (PySem.Str.ofString "z") = T [122] by decide +kernel))))))))) (pss_one (ps_ret pe_bl)) pss_nil)
      (pss_one (ps_ret (pe_cmpR (op_ninU hu1) pe_bl (pe_lc (own := [("_law_char", 1)]) (g := gName 1) (tt := tYes) rfl sc__law_good.nd (pi_str (pv 0)) (blkOk_by (N := N__law_good) (sc := defScope s__law_good) (by decide +kernel)) (fun _ _ _ _ _ => (pg_name (i := 1) sc__law_good.nd rfl (by first | exact Or.inl rfl | exact Or.inr rfl))) (fun _ _ _ _ _ => pts_nil) (fun _ _ _ _ _ => (pe_or (pe_chain op_leU op_leU (pe_strT (show (PySem.Str.ofString "a") = T [97] by decide +kernel)) (pv 1) (pe_strT (show (PySem.Str.ofString "z") = T [122] by decide +kernel))) (pe_or (pe_chain op_leU op_leU (pe_strT (show (PySem.Str.ofString "A") = T [65] by decide +kernel)) (pv 1) (pe_strT (show (PySem.Str.ofString "Z") = T [90] by decide +kernel))) (pe_one (pe_chain op_leU op_leU (pe_strT (show (PySem.Str.ofString "0") = T [48] by decide +kernel)) (pv 1) (pe_strT (show (PySem.Str.ofString "9") = T [57] by decide +kernel)))))))) (by first | exact nomark _ | rfl))))), ?_⟩
  refine z_start (σ := [some _, none]) rfl ?_
  one_sign
  refine z_newL (by show 5 ≤ sizeLine; decide) fun p H1 hp f1 p1 => ?_
  one_sign
  refine z_inLP (xs := RESL.map V.str) p1 rfl rfl ?_
  one_sign
  rw [inVS]
  refine iteD (fun h3 => ?_) (fun h3 => ?_)
  · one_sign
    have e : gdN l = false := by unfold gdN; rw [decide_eq_true h3]; simp
    rw [e] at k
    exact k _ f1
  one_sign
  refine z_lenS (by rw [Tlen]; exact sz1000 hl) ?_
  one_sign
  rw [Tlen]
  refine iteD (fun h => ?_) (fun h => ?_)
  · obtain rfl : l = [] := List.length_eq_zero_iff.mp (by omega)
    one_sign
    exact k _ f1
  obtain ⟨c, r, rfl⟩ : ∃ c r, l = c :: r := by
    cases l with
    | nil => exact absurd rfl h
    | cons c r => exact ⟨c, r, rfl⟩
  one_sign
  refine z_lenS (by rw [Tlen]; exact sz1000 hl) ?_
  one_sign
  rw [Tlen]
  refine iteD (fun h2 => ?_) (fun h2 => ?_)
  · one_sign
    have e : gdN (c :: r) = false := by unfold gdN; rw [decide_eq_false (show ¬ (c :: r).length ≤ 32 by omega)]; simp
    rw [e] at k
    exact k _ f1
  have h2' : (c :: r).length ≤ 32 := by omega
  one_sign
  refine z_ixS (i := 0) (c := c) (by rw [Tlen]; exact sz1000 hl) (by rw [cpsT]; exact atI_nat (j := 0) rfl) ?_
  one_sign
  simp only [cpsT, s1_le]
  refine z_ch2 ?_
  one_sign
  cases hlow : (decide (97 ≤ c) && decide (c ≤ 122)) with
  | false =>
    one_sign
    have e : gdN (c :: r) = false := by rw [gdN_cons, show lowC c = false from hlow]; simp
    rw [e] at k
    exact k _ f1
  | true =>
  have e : gdN (c :: r) = (c :: r).all okC := by rw [gdN_cons, decide_eq_true h2', decide_eq_false h3, show lowC c = true from hlow]; simp
  rw [e] at k
  one_sign
  refine z_lcS (fun i xs _ => xs = ((c :: r).take i).map fun c => V.bl (okC c)) (fun R H' _ _ => rfl) (fun R i x xs H' hR hi hil hxl hP hX f => ?_) (fun R xs H' hR hP hxl hX f => ?_)
  · leaf_len
    have next : LcY H1 R (fun i xs _ => xs = ((c :: r).take i).map fun c => V.bl (okC c)) (i + 1) (.bl (okC x)) H' :=
      z_lcY hR hX f hxl (by have := hil; rw [sizeLine_eq]; omega) fun H5 _ _ _ => by
        rw [hP, List.take_succ, hi, List.map_append]
        rfl
    simp only [cpsT, s1_le]
    refine z_ch2 ?_
    one_sign
    cases e1 : (decide (97 ≤ x) && decide (x ≤ 122)) with
    | true =>
      rw [show okC x = true from by unfold okC letC; rw [show lowC x = true from e1]; rfl] at next
      one_sign
      exact next
    | false =>
    one_sign
    simp only [cpsT, s1_le]
    refine z_ch2 ?_
    one_sign
    cases e2 : (decide (65 ≤ x) && decide (x ≤ 90)) with
    | true =>
      rw [show okC x = true from by unfold okC letC; rw [show uppC x = true from e2]; simp] at next
      one_sign
      exact next
    | false =>
    one_sign
    simp only [cpsT, s1_le]
    refine z_ch2 ?_
    rw [show okC x = (decide (48 ≤ x) && decide (x ≤ 57)) from by unfold okC letC digC; rw [show lowC x = false from e1, show uppC x = false from e2]; rfl] at next
    exact next
  · one_sign
    refine z_inLN (xs := ((c :: r).map okC).map V.bl) (by rw [hX, hP, List.take_length, List.map_map]; rfl) rfl (flatB _) ?_
    rw [inVB, Bool.not_not, List.all_map]
    exact k _ (f1.trans f)
theorem z_bmIdx {H : Hp} {l : Addr} {ys : List Str} {z : Str} {j : Nat} {Q : VK} (h1 : H l = some (.lst (ys.map V.str))) (h2 : ys.findIdx? (fun y => decide (y = z)) = some j) (h : Q (.int (j : Nat)) H) : rIndex K (.ref l) [.str z] H Q := by
  rw [List.findIdx?_eq_some_iff_getElem] at h2
  obtain ⟨hj, e1, e2⟩ := h2
  refine ⟨l, ys.map V.str, .str z, j, .str ys[j], rfl, rfl, SqL.of h1, rfl, flatS _, by rw [List.getElem?_map, List.getElem?_eq_getElem hj]; rfl, ?_, fun m z' hm hz => ?_, h⟩
  · show (ys[j] == z) = true
    exact beq_iff_eq.mpr (of_decide_eq_true e1)
  · rw [List.getElem?_map, List.getElem?_eq_getElem (by omega)] at hz
    cases hz
    show (ys[m] == z) = false
    have := e2 m hm
    exact beq_eq_false_iff_ne.mpr fun q => this (decide_eq_true q)
/-- where a field comes from -/
def org (old : List Str) (z : Str) : Option Nat := old.findIdx? fun y => decide (y = z)
def orgV (old : List Str) (z : Str) : V := match org old z with | some j => .int (j : Nat) | none => .non
theorem org_mem {old : List Str} {z : Str} : z ∈ old ↔ ∃ j, org old z = some j := by
  unfold org
  constructor
  · intro h
    have : (old.findIdx? fun y => decide (y = z)).isSome = true := by
      rw [List.findIdx?_isSome]
      exact List.any_eq_true.mpr ⟨z, h, decide_eq_true rfl⟩
    exact Option.isSome_iff_exists.mp this
  · rintro ⟨j, hj⟩
    rw [List.findIdx?_eq_some_iff_getElem] at hj
    obtain ⟨h1, h2, _⟩ := hj
    rw [← of_decide_eq_true h2]
    exact List.getElem_mem h1
def sp_org : Sp := fun vs H Q _ => ∃ l old z, vs = [.ref l, .str z] ∧ H l = some (.lst (old.map V.str)) ∧ Q (orgV old z) H
theorem ok_origin_of (W : Wd P K mg) : FnOk P w K mg base CX0 1 W.f_origin_of W.fd_origin_of ["old", "field"] sp_org := by
  refine W.F_origin_of.ok sc_origin_of (fun vs H Q E h => by obtain ⟨l, old, z, rfl, hl, k⟩ := h; rfl) (fun cdv A outer s H vs Q E hr h => ?_)
  obtain ⟨l, old, z, rfl, hl, k⟩ := h
  have hu1 := hu_of hr
  have hu64 := hu64_of hr
  refine ⟨_, (pss_cons (ps_if (pt_cmpR (op_inU hu1) (pv 1) (pv 0) (by first | exact nomark _ | rfl)) (pss_one (ps_ret (pe_bm PySem.F.plainAttrs_list PySem.F.slot_list_index PySem.F.type_list_index mt_index (pv 0) (pa_cons (pv 1) pa_nil)))) pss_nil)
      (pss_one (ps_ret pe_non))), ?_⟩
  refine z_start (σ := [some _, some _]) rfl ?_
  one_sign
  refine z_inLP (xs := old.map V.str) hl rfl (flatS _) ?_
  rw [inVS]
  one_sign
  refine iteD (fun h => ?_) (fun h => ?_)
  · one_sign
    obtain ⟨j, hj⟩ := org_mem.mp h
    refine z_bmIdx hl hj ?_
    unfold orgV at k
    rw [hj] at k
    exact k
  · one_sign
    unfold orgV at k
    cases e : org old z with
    | some j => exact absurd (org_mem.mpr ⟨j, e⟩) h
    | none => rw [e] at k; exact k
def optS : Option Str → V
  | none => .non
  | some z => .str z
structure Kd where
  nm : Str
  sup : Option Str
  fl : List Str
def kF (k : Kd) (t : Addr) : List (Str × V) := [("name", .str k.nm), ("superclass", optS k.sup), ("fields", .ref t)]
def KdAt (C : Addr) (H : Hp) (a : Addr) (k : Kd) : Prop := ∃ dx t, H a = some (.ins C dx (kF k t)) ∧ H t = some (.tup (k.fl.map V.str))
theorem KdAt.keep {C : Addr} {H H' : Hp} {a : Addr} {k : Kd} {F : List Addr} (h : KdAt C H a k) (f : Fr F H H') (hF : ∀ b ∈ F, ∀ xs, H b ≠ some (.tup xs)) (hF2 : ∀ b ∈ F, ∀ dx fs, H b ≠ some (.ins C dx fs)) : KdAt C H' a k := by
  obtain ⟨dx, t, h1, h2⟩ := h
  exact ⟨dx, t, f.g h1 fun m => hF2 _ m _ _ h1, f.g h2 fun m => hF _ m _ h2⟩
theorem KdAt.keep0 {C : Addr} {H H' : Hp} {a : Addr} {k : Kd} (h : KdAt C H a k) (f : Fr [] H H') : KdAt C H' a k := h.keep f (by simp) (by simp)
def sp_kinit (C : Addr) : Sp := fun vs H Q _ => ∃ a dx nm sup f fl, vs = [.ref a, .str nm, optS sup, .ref f] ∧ H a = some (.ins C dx []) ∧ (H f = some (.lst (fl.map V.str)) ∨ H f = some (.tup (fl.map V.str))) ∧
  ∀ H', Fr [a] H H' → KdAt C H' a ⟨nm, sup, fl⟩ → Q .non H'
theorem ok_Kind___init__ (W : Wd P K mg) : FnOk P w K mg base CX0 1 W.f_Kind___init__ W.fd_Kind___init__ ["self", "name", "superclass", "fields"] (sp_kinit W.c_Kind) := by
  refine W.F_Kind___init__.ok sc_Kind___init__ (fun vs H Q E h => by obtain ⟨a, dx, nm, sup, f, fl, rfl, ha, hf, k⟩ := h; rfl) (fun cdv A outer s H vs Q E hr h => ?_)
  obtain ⟨a, dx, nm, sup, f, fl, rfl, ha, hf, k⟩ := h
  have hu1 := hu_of hr
  have hu64 := hu64_of hr
  refine ⟨_, (pss_cons (ps_fld (pv 0) (pv 1) rfl)
      (pss_cons (ps_fld (pv 0) (pv 2) rfl)
      (pss_one (ps_fld (pv 0) (pe_callTy call_tupleU (by rfl) W.n_tuple bb_tuple (pa_cons (pv 3) pa_nil)) rfl)))), ?_⟩
  refine z_start (σ := [some _, some _, some _, some _]) rfl ?_
  one_sign
  refine z_flds1 ha W.C_Kind W.na_Kind_name (by show 0 < 1000; decide) fun H1 g1 s1 n1 => ?_
  one_sign
  refine z_flds1 s1 W.C_Kind W.na_Kind_superclass (by show 1 < 1000; decide) fun H2 g2 s2 n2 => ?_
  one_sign
  have G2 := g1.trans g2
  have fin : ∀ H3 t, Fr [] H2 H3 → H3 t = some (.tup (fl.map V.str)) → oFldS K "fields" (.ref a) (.ref t) (fun H' => Q .non H') H3 := fun H3 t f3 h3 => by
    refine z_flds1 (f3.g0 s2) W.C_Kind W.na_Kind_fields (by show 2 < 1000; decide) fun H4 g4 s4 n4 => ?_
    exact k H4 ((G2.trans (f3.mono (by simp))).trans g4) ⟨dx, t, s4, g4.g h3 (nin (ne_of h3 (f3.g0 s2) (by intro z; cases z)))⟩
  rcases hf with hf | hf
  · refine z_tupL (G2.g hf (nin (ne_of hf ha (by intro z; cases z)))) fun t H3 ht f3 t3 => ?_
    one_sign
    exact fin H3 t f3 t3
  · have hf2 := G2.g hf (nin (ne_of hf ha (by intro z; cases z)))
    refine z_tupT hf2 ?_
    one_sign
    exact fin H2 f Fr.rfl' hf2
structure Ch where
  nm : Str
  old : List Str
  new : List Str
def cF (c : Ch) (t1 t2 t3 : Addr) : List (Str × V) := [("name", .str c.nm), ("old", .ref t1), ("new", .ref t2), ("origins", .ref t3)]
def ChAt (C : Addr) (H : Hp) (a : Addr) (c : Ch) : Prop := ∃ dx t1 t2 t3, H a = some (.ins C dx (cF c t1 t2 t3)) ∧ H t1 = some (.tup (c.old.map V.str)) ∧ H t2 = some (.tup (c.new.map V.str)) ∧ H t3 = some (.tup (c.new.map (orgV c.old)))
def sp_chinit (C : Addr) : Sp := fun vs H Q _ => ∃ a dx nm o n old new, vs = [.ref a, .str nm, .ref o, .ref n] ∧ H a = some (.ins C dx []) ∧ H o = some (.lst (old.map V.str)) ∧ H n = some (.lst (new.map V.str)) ∧ new.length ≤ 1000 ∧
  ∀ H', Fr [a] H H' → ChAt C H' a ⟨nm, old, new⟩ → Q .non H'
theorem ok_Change___init__ (W : Wd P K mg) : FnOk P w K mg base CX0 2 W.f_Change___init__ W.fd_Change___init__ ["self", "name", "old", "new"] (sp_chinit W.c_Change) := by
  refine W.F_Change___init__.ok sc_Change___init__ (fun vs H Q E h => by obtain ⟨a, dx, nm, o, n, old, new, rfl, ha, ho, hn, hl, k⟩ := h; rfl) (fun cdv A outer s H vs Q E hr h => ?_)
  obtain ⟨a, dx, nm, o, n, old, new, rfl, ha, ho, hn, hl, k⟩ := h
  have hu1 := hu_of hr
  have hu64 := hu64_of hr
  refine ⟨_, (pss_cons (ps_fld (pv 0) (pv 1) rfl)
      (pss_cons (ps_fld (pv 0) (pe_callTy call_tupleU (by rfl) W.n_tuple bb_tuple (pa_cons (pv 2) pa_nil)) rfl)
      (pss_cons (ps_fld (pv 0) (pe_callTy call_tupleU (by rfl) W.n_tuple bb_tuple (pa_cons (pv 3) pa_nil)) rfl)
      (pss_one (ps_fld (pv 0) (pe_callTy call_tupleU (by rfl) W.n_tuple bb_tuple (pa_cons (pe_lc (own := [("field", 4)]) (g := gName 4) (tt := tYes) rfl sc_Change___init__.nd (pi_list (pv 3)) (blkOk_by (N := N_Change___init__) (sc := defScope s_Change___init__) (by decide +kernel)) (fun _ _ _ _ _ => (pg_name (i := 4) sc_Change___init__.nd rfl (by first | exact Or.inl rfl | exact Or.inr rfl))) (fun _ _ _ _ _ => pts_nil) (fun _ _ _ _ _ => (pe_call (ok_origin_of W) (hr.mono (by decide)) rfl W.g_origin_of W.F_origin_of.kp W.b_origin_of .nil pass0 (pa_cons (pv 2) (pa_cons (pv 4) pa_nil))))) pa_nil)) rfl))))), ?_⟩
  refine z_start (σ := [some _, some _, some _, some _, none]) rfl ?_
  one_sign
  have no : o ∉ [a] := nin (ne_of ho ha (by intro z; cases z))
  have nn : n ∉ [a] := nin (ne_of hn ha (by intro z; cases z))
  refine z_flds1 ha W.C_Change W.na_Change_name (by show 0 < 1000; decide) fun H1 g1 s1 n1 => ?_
  one_sign
  refine z_tupL (g1.g ho no) fun t1 H2 ht1 f2 e2 => ?_
  one_sign
  have G2 := g1.trans (f2.mono (show ∀ b, b ∈ [] → b ∈ [a] by simp))
  refine z_flds1 (f2.g0 s1) W.C_Change W.na_Change_old (by show 1 < 1000; decide) fun H3 g3 s3 n3 => ?_
  have G3 := G2.trans g3
  have e3 := g3.g e2 (nin (ne_of e2 (f2.g0 s1) (by intro z; cases z)))
  one_sign
  refine z_tupL (G3.g hn nn) fun t2 H4 ht2 f4 e4 => ?_
  one_sign
  refine z_flds1 (f4.g0 s3) W.C_Change W.na_Change_new (by show 2 < 1000; decide) fun H5 g5 s5 n5 => ?_
  have G5 := (G3.trans (f4.mono (show ∀ b, b ∈ [] → b ∈ [a] by simp))).trans g5
  have e5 := g5.g e4 (nin (ne_of e4 (f4.g0 s3) (by intro z; cases z)))
  have e5' := g5.g (f4.g0 e3) (nin (ne_of (f4.g0 e3) (f4.g0 s3) (by intro z; cases z)))
  have ho5 := G5.g ho no
  have hn5 := G5.g hn nn
  one_sign
  refine z_lcL hn5 (fun i xs _ => xs = (new.take i).map (orgV old)) (fun R H' _ _ => rfl) (fun R i x xs H' hR hi hil hxl hP hX f => ?_) (fun R xs H' hR hP hxl hX f => ?_)
  · have hi' := hi
    rw [List.getElem?_map] at hi
    obtain ⟨z, hz, rfl⟩ := Option.map_eq_some_iff.mp hi
    leaf_len
    refine ⟨o, old, z, rfl, f.g0 ho5, ?_⟩
    rw [List.length_map] at hil
    exact z_lcY hR hX f hxl (by rw [sizeLine_eq]; omega) fun H6 _ _ _ => by
      rw [hP, List.take_succ, hz, List.map_append]; rfl
  · rw [List.length_map, List.take_length] at hP
    subst hP
    one_sign
    refine z_tupL hX fun t3 H7 ht3 f7 e7 => ?_
    one_sign
    have F := f.trans f7
    refine z_flds1 (F.g0 s5) W.C_Change W.na_Change_origins (by show 3 < 1000; decide) fun H8 g8 s8 n8 => ?_
    have G8 := (G5.trans (F.mono (show ∀ b, b ∈ [] → b ∈ [a] by simp))).trans g8
    have keep : ∀ (t : Addr) (ys : List V), H7 t = some (.tup ys) → H8 t = some (.tup ys) := fun t ys h => g8.g h (nin (ne_of h (F.g0 s5) (by intro z; cases z)))
    exact k H8 G8 ⟨dx, t1, t2, t3, s8, keep _ _ (F.g0 e5'), keep _ _ (F.g0 e5), keep _ _ e7⟩
end

end LX
namespace LX
open PySem PySem.Spec PyProof.Rows L2 NdefX
set_option hygiene false in
local macro_rules | `(tactic| k_memK) => `(tactic| first | exact W.na_Kind_name | exact W.na_Kind_superclass | exact W.na_Kind_fields | exact W.na_Change_name | exact W.na_Change_old | exact W.na_Change_new | exact W.na_Change_origins)
set_option hygiene false in
local macro_rules | `(tactic| k_ownIn) => `(tactic| first | exact W.C_Kind | exact W.C_Change)
local macro_rules | `(tactic| none_booked) => `(tactic| first | assumption | (refine Fr.g0 (by assumption) ?_; none_booked))
local macro_rules | `(tactic| one_sign) => `(tactic| repeat (first
  | refine Stp.h ?_
  | ((with_reducible refine' z_fld1 ?k0 ?k1 ?k2 ?k3 ?_); (case k0 => none_booked); (case k1 => k_ownIn); (case k2 => k_memK); (case k3 => rfl))
  | ((with_reducible refine' z_meth1 ?k0 ?k1 ?_); (case k0 => none_booked); (case k1 => rfl))
  | ((with_reducible refine' z_bmL ?k0 ?_); (case k0 => none_booked))
  | ((with_reducible refine' z_lenL ?k0 ?_); (case k0 => none_booked))
  | ((with_reducible refine' z_lenT ?k0 ?_); (case k0 => none_booked))
  | ((with_reducible refine' z_lenD ?k0 ?_); (case k0 => none_booked))
  | ((with_reducible refine' z_truL ?k0 ?_); (case k0 => none_booked))
  | ((with_reducible refine' z_truD ?k0 ?_); (case k0 => none_booked))
  | ((with_reducible refine' z_truT ?k0 ?_); (case k0 => none_booked))
  | ((with_reducible refine' z_inDIP ?k0 ?_); (case k0 => none_booked))
  | ((with_reducible refine' z_inDIN ?k0 ?_); (case k0 => none_booked))
  | ((with_reducible refine' z_inDfP ?k0 ?_); (case k0 => none_booked))
  | ((with_reducible refine' z_inDfN ?k0 ?_); (case k0 => none_booked))
  | ((with_reducible refine' z_iList1 ?k0 ?_); (case k0 => none_booked))
  | ((with_reducible refine' z_isi0 ?k0 ?k1 ?k2 ?_); (case k0 => exact (ClsV.ty _)); (case k1 => exact (TyX.base (TyOf.lst (by none_booked)))); (case k2 => first | exact kt_list_int | exact kt_list_bool | exact kt_list_str | exact kt_list_list | exact kt_list_tuple | exact kt_list_dict))
  | ((with_reducible refine' z_rI ?k0 ?_); (case k0 => first | exact (by decide : (0 : Int) < _) | exact ⟨by decide, by decide⟩ | exact ⟨by decide, by decide, by decide⟩ | (show (0 : Int) < _; omega)))
  | ((with_reducible refine' z_mulI ?k0 ?_); (case k0 => first | exact Or.inr ⟨by decide, by decide⟩ | exact Or.inl ⟨by decide, by decide⟩ | exact Or.inl ⟨by omega, by omega⟩ | exact Or.inr ⟨by omega, by omega⟩))))
local macro_rules | `(tactic| leaf_len) => `(tactic| (simp only [wipe, List.map_cons, List.map_nil, List.set_cons_zero, List.set_cons_succ]; one_sign; refine z_ok rfl ?_; one_sign))
structure KsA (C : Addr) (H : Hp) (l : Addr) (A : List Addr) (ks : List Kd) : Prop where
  l : H l = some (.lst (A.map V.ref))
  len : A.length = ks.length
  it : ∀ (i : Nat) (a : Addr) (k : Kd), A[i]? = some a → ks[i]? = some k → KdAt C H a k
theorem KsA.keep {C : Addr} {H H' : Hp} {l : Addr} {A : List Addr} {ks : List Kd} (h : KsA C H l A ks) (f : Fr [] H H') : KsA C H' l A ks := ⟨f.g0 h.l, h.len, fun i a k h1 h2 => (h.it i a k h1 h2).keep0 f⟩
def nmI (n : Str) : Kd → Bool := fun k => decide (k.nm = n)
theorem find_first {ks : List Kd} {n : Str} {i : Nat} {k : Kd} (h : ks[i]? = some k) (e : k.nm = n) (hf : ∀ j k', j < i → ks[j]? = some k' → k'.nm ≠ n) : ks.find? (nmI n) = some k := by
  obtain ⟨hi, e1⟩ := List.getElem?_eq_some_iff.mp h
  rw [List.find?_eq_some_iff_getElem]
  refine ⟨decide_eq_true e, i, hi, e1, fun j hj => ?_⟩
  have := hf j ks[j] hj (List.getElem?_eq_getElem (by omega))
  unfold nmI
  simp [this]
/-- the way up from a class -/
inductive Up (ks : List Kd) : Option Str → List Kd → Prop
  | nil : Up ks none []
  | cons {n : Str} {k : Kd} {r : List Kd} : ks.find? (nmI n) = some k → Up ks k.sup r → Up ks (some n) (k :: r)
theorem Up.nm {ks : List Kd} {n : Str} {k : Kd} (h : ks.find? (nmI n) = some k) : k.nm = n := by
  have z := List.find?_some h
  exact of_decide_eq_true (p := k.nm = n) z
def flK : List Kd → List Str
  | [] => []
  | k :: r => flK r ++ k.fl
section
variable {P : Program} {w : World} {K : PySem.W.Frag} {mg : Str → Option Value} {base : Heap}
def sp_kn (C : Addr) : Sp := fun vs H Q _ => ∃ l A ks n, vs = [.ref l, .str n] ∧ KsA C H l A ks ∧ (∀ (i : Nat) (a : Addr) (k : Kd), A[i]? = some a → ks[i]? = some k → ks.find? (nmI n) = some k → Q (.ref a) H) ∧ (ks.find? (nmI n) = none → Q .non H)
theorem ok_kind_named (W : Wd P K mg) : FnOk P w K mg base CX0 1 W.f_kind_named W.fd_kind_named ["kinds", "name"] (sp_kn W.c_Kind) := by
  refine W.F_kind_named.ok sc_kind_named (fun vs H Q E h => by obtain ⟨l, A, ks, n, rfl, S, k1, k2⟩ := h; rfl) (fun cdv A outer s H vs Q E hr h => ?_)
  obtain ⟨l, A, ks, n, rfl, S, k1, k2⟩ := h
  have hu1 := hu_of hr
  have hu64 := hu64_of hr
  refine ⟨_, (pss_cons (ps_for PassesOwn.never rfl (pi_list (pv 0)) (pg_name (i := 2) sc_kind_named.nd rfl (by first | exact Or.inl rfl | exact Or.inr rfl)) (pss_one (ps_if (pt_cmpR (op_eqU hu64) (pe_fld (pv 2) rfl) (pv 1) (by first | exact nomark _ | rfl)) (pss_one (ps_ret (pv 2))) pss_nil)))
      (pss_one (ps_ret pe_non))), ?_⟩
  refine z_start (σ := [some _, some _, none]) rfl ?_
  one_sign
  have hl := S.l
  one_sign
  refine for_list (K := K) (a := l) (xs := A.map V.ref) (fun i σ H' => (∃ v, σ = [some (.ref l), some (.str n), v]) ∧ H' = H ∧ ∀ j k', j < i → ks[j]? = some k' → k'.nm ≠ n) ⟨⟨_, rfl⟩, rfl, fun j k' h => absurd h (by omega)⟩ (fun i σ H' _ e => by rw [e.2.1]; exact SqL.of hl) (fun i x σ H' hx hI => ?_) (fun σ H' hI => ?_)
  · obtain ⟨⟨v, rfl⟩, rfl, hn⟩ := hI
    rw [List.getElem?_map] at hx
    obtain ⟨a, ha, rfl⟩ := Option.map_eq_some_iff.mp hx
    obtain ⟨k, hk⟩ : ∃ k, ks[i]? = some k := ⟨_, List.getElem?_eq_getElem (by rw [← S.len]; exact (List.getElem?_eq_some_iff.mp ha).1)⟩
    obtain ⟨dx, t, s1, s2⟩ := S.it i a k ha hk
    one_sign
    refine iteD (fun h => ?_) (fun h => ?_)
    · one_sign
      exact k1 i a k ha hk (find_first hk h hn)
    · one_sign
      refine ⟨⟨_, rfl⟩, rfl, fun j k' hj hk' => ?_⟩
      by_cases hji : j = i
      · subst hji
        rw [hk] at hk'
        cases hk'
        exact h
      · exact hn j k' (by omega) hk'
  · obtain ⟨⟨v, rfl⟩, rfl, hn⟩ := hI
    one_sign
    refine k2 (List.find?_eq_none.mpr fun k hk => ?_)
    obtain ⟨j, hj⟩ := List.getElem?_of_mem hk
    have hj' := (List.getElem?_eq_some_iff.mp hj).1
    have := hn j k (by rw [List.length_map, S.len]; exact hj') hj
    unfold nmI
    simp [this]
def sp_allf (C : Addr) : Sp := fun vs H Q _ => ∃ l A ks n r, vs = [.ref l, .str n] ∧ KsA C H l A ks ∧ Up ks (some n) r ∧ (flK r).length ≤ 1000 ∧ ∀ H' q, Fr [] H H' → H q = none → H' q = some (.lst ((flK r).map V.str)) → Q (.ref q) H'
theorem ok_all_fields (W : Wd P K mg) : FnOk P w K mg base CX0 2 W.f_all_fields W.fd_all_fields ["kinds", "name"] (sp_allf W.c_Kind) := by
  refine W.F_all_fields.ok sc_all_fields (fun vs H Q E h => by obtain ⟨l, A, ks, n, r, rfl, S, U, hl, k⟩ := h; rfl) (fun cdv A outer s H vs Q E hr h => ?_)
  obtain ⟨l, A, ks, n, r, rfl, S, U, hl, k⟩ := h
  have hu1 := hu_of hr
  have hu64 := hu64_of hr
  refine ⟨_, (pss_cons (ps_set (i := 2) sc_all_fields.nd rfl (by first | exact Or.inl rfl | exact Or.inr rfl) (pe_lst pa_nil))
      (pss_cons (ps_while PassesOwn.never (pt_cmpR op_isnotU (pv 1) pe_non (by first | exact nomark _ | rfl)) (pss_cons (ps_set (i := 3) sc_all_fields.nd rfl (by first | exact Or.inl rfl | exact Or.inr rfl) (pe_call (ok_kind_named W) (hr.mono (by decide)) rfl W.g_kind_named W.F_kind_named.kp W.b_kind_named .nil pass0 (pa_cons (pv 0) (pa_cons (pv 1) pa_nil))))
      (pss_cons (ps_set (i := 2) sc_all_fields.nd rfl (by first | exact Or.inl rfl | exact Or.inr rfl) (pe_op op_addU (pe_callTy call_listU (by rfl) W.n_list bb_list (pa_cons (pe_fld (pv 3) rfl) pa_nil)) (pv 2)))
      (pss_one (ps_set (i := 1) sc_all_fields.nd rfl (by first | exact Or.inl rfl | exact Or.inr rfl) (pe_fld (pv 3) rfl))))))
      (pss_one (ps_ret (pv 2))))), ?_⟩
  refine z_start (σ := [some _, some _, none, none]) rfl ?_
  one_sign
  refine z_newL (by show 0 ≤ sizeLine; decide) fun q0 H1 hq0 f1 e1 => ?_
  one_sign
  refine ⟨fun m σ H' => ∃ (o : Option Str) (r' : List Kd) (acc : List Str) (q : Addr) (v : Option V), σ = [some (.ref l), some (optS o), some (.ref q), v] ∧ Up ks o r' ∧ flK r = flK r' ++ acc ∧ H' q = some (.lst (acc.map V.str)) ∧ H q = none ∧ Fr [] H H' ∧ m = r'.length,
    ⟨_, some n, r, [], q0, none, rfl, U, by rw [List.append_nil], e1, hq0, f1, rfl⟩, ?_⟩
  rintro m σ H2 ⟨o, r', acc, q, v, rfl, U2, hfl, hq, hq0', f2, rfl⟩
  one_sign
  cases U2 with
  | nil =>
    refine iteF ?_
    one_sign
    rw [show flK r = acc from hfl] at k
    exact k H2 q f2 hq0' hq
  | @cons n2 k2 r2 h1 U3 =>
    refine iteT ?_
    refine ⟨_, fun _ _ z => z, ?_⟩
    have S2 := S.keep f2
    one_sign
    refine ⟨l, A, ks, n2, rfl, S2, fun i a kk ha hk hfd => ?_, fun hn => by rw [h1] at hn; cases hn⟩
    rw [h1] at hfd
    cases hfd
    obtain ⟨dx, t, s1, s2⟩ := S2.it i a _ ha hk
    one_sign
    refine z_listT s2 fun l3 H3 hl3 f3 e3 => ?_
    have hq3 := f3.g0 hq
    have hlen : (flK r).length = (flK r2).length + k2.fl.length + acc.length := by rw [hfl]; show ((flK r2 ++ k2.fl) ++ acc).length = _; simp only [List.length_append]
    one_sign
    refine z_addL e3 hq3 (by rw [List.length_map, List.length_map, sizeLine_eq]; omega) fun q4 H4 hq4 f4 e4 => ?_
    have s4 := f4.g0 (f3.g0 s1)
    one_sign
    have f24 := (f2.trans f3).trans f4
    exact ⟨r2.length, by simp, k2.sup, r2, k2.fl ++ acc, q4, _, rfl, U3, by rw [hfl]; show (flK r2 ++ k2.fl) ++ acc = _; rw [List.append_assoc], by rw [List.map_append]; exact e4, (f2.trans f3).none hq4, f24, rfl⟩
def sp_und (C : Addr) : Sp := fun vs H Q _ => ∃ l A ks n r o, vs = [.ref l, .str n, .str o] ∧ KsA C H l A ks ∧ Up ks (some n) r ∧ Q (.bl (decide (o ∈ r.map Kd.nm))) H
theorem ok_is_under (W : Wd P K mg) : FnOk P w K mg base CX0 2 W.f_is_under W.fd_is_under ["kinds", "name", "other"] (sp_und W.c_Kind) := by
  refine W.F_is_under.ok sc_is_under (fun vs H Q E h => by obtain ⟨l, A, ks, n, r, o, rfl, S, U, k⟩ := h; rfl) (fun cdv A outer s H vs Q E hr h => ?_)
  obtain ⟨l, A, ks, n, r, o, rfl, S, U, k⟩ := h
  have hu1 := hu_of hr
  have hu64 := hu64_of hr
  refine ⟨_, (pss_cons (ps_while PassesOwn.never (pt_cmpR op_isnotU (pv 1) pe_non (by first | exact nomark _ | rfl)) (pss_cons (ps_if (pt_cmpR (op_eqU hu64) (pv 1) (pv 2) (by first | exact nomark _ | rfl)) (pss_one (ps_ret pe_bl)) pss_nil)
      (pss_one (ps_set (i := 1) sc_is_under.nd rfl (by first | exact Or.inl rfl | exact Or.inr rfl) (pe_fld (pe_call (ok_kind_named W) (hr.mono (by decide)) rfl W.g_kind_named W.F_kind_named.kp W.b_kind_named .nil pass0 (pa_cons (pv 0) (pa_cons (pv 1) pa_nil))) rfl)))))
      (pss_one (ps_ret pe_bl))), ?_⟩
  refine z_start (σ := [some _, some _, some _]) rfl ?_
  one_sign
  refine ⟨fun m σ H' => ∃ (p : Option Str) (r' : List Kd), σ = [some (.ref l), some (optS p), some (.str o)] ∧ Up ks p r' ∧ decide (o ∈ r.map Kd.nm) = decide (o ∈ r'.map Kd.nm) ∧ H' = H ∧ m = r'.length,
    ⟨_, some n, r, rfl, U, rfl, rfl, rfl⟩, ?_⟩
  rintro m σ H2 ⟨p, r', rfl, U2, hr', rfl, rfl⟩
  one_sign
  cases U2 with
  | nil =>
    refine iteF ?_
    one_sign
    rw [hr'] at k
    exact k
  | @cons n2 k2 r2 h1 U3 =>
    refine iteT ?_
    refine ⟨_, fun _ _ z => z, ?_⟩
    have hnm := Up.nm h1
    simp only [optS]
    one_sign
    refine iteD (fun h => ?_) (fun h => ?_)
    · one_sign
      rw [hr', decide_eq_true (by rw [List.map_cons, hnm, h]; exact List.mem_cons_self)] at k
      exact k
    · one_sign
      refine ⟨l, A, ks, n2, rfl, S, fun i a kk ha hk hfd => ?_, fun hn => by rw [h1] at hn; cases hn⟩
      rw [h1] at hfd
      cases hfd
      obtain ⟨dx, t, s1, s2⟩ := S.it i a _ ha hk
      one_sign
      refine ⟨r2.length, by simp, k2.sup, r2, rfl, U3, ?_, rfl, rfl⟩
      rw [hr']
      have : (o ∈ (k2 :: r2).map Kd.nm) ↔ o ∈ r2.map Kd.nm := by
        rw [List.map_cons, List.mem_cons, hnm]
        exact ⟨fun z => z.resolve_left fun e => h e.symm, Or.inr⟩
      exact decide_eq_decide.mpr this
end
/-- the law's classes -/
structure Rw where
  nm : Str
  ab : Str
  own : List Str
def OBJ : Str := T [79, 98, 106, 101, 99, 116]
structure LkA (H : Hp) (l : Addr) (A : List Addr) (R : List Rw) : Prop where
  l : H l = some (.lst (A.map V.ref))
  len : A.length = R.length
  it : ∀ (i : Nat) (a : Addr) (r : Rw), A[i]? = some a → R[i]? = some r → ∃ o, H a = some (.tup [.str r.nm, .str r.ab, .ref o]) ∧ H o = some (.lst (r.own.map V.str))
theorem LkA.keep {H H' : Hp} {l : Addr} {A : List Addr} {R : List Rw} (h : LkA H l A R) (f : Fr [] H H') : LkA H' l A R := ⟨f.g0 h.l, h.len, fun i a r h1 h2 => let ⟨o, e1, e2⟩ := h.it i a r h1 h2; ⟨o, f.g0 e1, f.g0 e2⟩⟩
def lk (R : List Rw) (n : Str) : Str × List Str := R.foldl (fun s r => if r.nm = n then (r.ab, r.own) else s) (OBJ, [])
theorem lk_take {R : List Rw} {n : Str} {i : Nat} {r : Rw} (h : R[i]? = some r) : lk (R.take (i + 1)) n = if r.nm = n then (r.ab, r.own) else lk (R.take i) n := by
  unfold lk
  rw [List.take_succ, h, List.foldl_append]
  rfl
def lall (R : List Rw) : Nat → Str → List Str
  | 0, _ => []
  | k + 1, n => lall R k (lk R n).1 ++ (lk R n).2
def lund (R : List Rw) : Nat → Str → Str → Bool
  | 0, n, o => decide (n = o)
  | k + 1, n, o => decide (n = o) || lund R k (lk R n).1 o
theorem lk_own {R : List Rw} (n : Str) : ∀ x, (x ∈ (lk R n).2 → ∃ r ∈ R, x ∈ r.own) := by
  have : ∀ (R : List Rw) (s : Str × List Str), (R.foldl (fun s r => if r.nm = n then (r.ab, r.own) else s) s) = s ∨ ∃ r ∈ R, (R.foldl (fun s r => if r.nm = n then (r.ab, r.own) else s) s) = (r.ab, r.own) := by
    intro R
    induction R with
    | nil => exact fun s => Or.inl rfl
    | cons r R ih =>
      intro s
      rw [List.foldl_cons]
      rcases ih (if r.nm = n then (r.ab, r.own) else s) with h | ⟨r', h1, h2⟩
      · rw [h]
        by_cases e : r.nm = n
        · rw [if_pos e]; exact Or.inr ⟨r, List.mem_cons_self, rfl⟩
        · rw [if_neg e]; exact Or.inl rfl
      · exact Or.inr ⟨r', List.mem_cons_of_mem _ h1, h2⟩
  intro x hx
  unfold lk at hx
  rcases this R (OBJ, []) with h | ⟨r, h1, h2⟩
  · rw [h] at hx; cases hx
  · rw [h2] at hx; exact ⟨r, h1, hx⟩
theorem lk_len {R : List Rw} {b : Nat} (h : ∀ r ∈ R, r.own.length ≤ b) (n : Str) : (lk R n).2.length ≤ b := by
  have : ∀ (R : List Rw) (s : Str × List Str), s.2.length ≤ b → (∀ r ∈ R, r.own.length ≤ b) → (R.foldl (fun s r => if r.nm = n then (r.ab, r.own) else s) s).2.length ≤ b := by
    intro R
    induction R with
    | nil => exact fun s hs _ => hs
    | cons r R ih =>
      intro s hs hR
      rw [List.foldl_cons]
      refine ih _ ?_ fun r' h' => hR r' (List.mem_cons_of_mem _ h')
      by_cases e : r.nm = n
      · rw [if_pos e]; exact hR r List.mem_cons_self
      · rw [if_neg e]; exact hs
  exact this R (OBJ, []) (Nat.zero_le _) h
theorem lall_len {R : List Rw} {b : Nat} (h : ∀ r ∈ R, r.own.length ≤ b) : ∀ k n, (lall R k n).length ≤ k * b
  | 0, _ => Nat.le_of_eq (by simp [lall])
  | k + 1, n => by
    have h1 := lall_len h k (lk R n).1
    have h2 := lk_len h n
    unfold lall
    rw [List.length_append, Nat.succ_mul]
    omega
section
variable {P : Program} {w : World} {K : PySem.W.Frag} {mg : Str → Option Value} {base : Heap}
def sp_lall : Sp := fun vs H Q _ => ∃ l A R n, vs = [.ref l, .str n] ∧ LkA H l A R ∧ (∀ r ∈ R, r.own.length ≤ 40) ∧ ∀ H' q, Fr [] H H' → H q = none → H' q = some (.lst ((lall R 20 n).map V.str)) → Q (.ref q) H'
theorem ok__law_all (W : Wd P K mg) : FnOk P w K mg base CX0 1 W.f__law_all W.fd__law_all ["_law_kinds_here", "_law_name"] sp_lall := by
  refine W.F__law_all.ok sc__law_all (fun vs H Q E h => by obtain ⟨l, A, R, n, rfl, S, hR, k⟩ := h; rfl) (fun cdv A outer s H vs Q E hr h => ?_)
  obtain ⟨l, A, R, n, rfl, S, hR, k⟩ := h
  have hu1 := hu_of hr
  have hu64 := hu64_of hr
  refine ⟨_, (pss_cons (ps_set (i := 2) sc__law_all.nd rfl (by first | exact Or.inl rfl | exact Or.inr rfl) (pe_lst pa_nil))
      (pss_cons (ps_for PassesOwn.never rfl (pi_range1 (by rfl) W.n_range (pa_cons pe_int pa_nil)) (pg_name (i := 3) sc__law_all.nd rfl (by first | exact Or.inl rfl | exact Or.inr rfl)) (pss_cons (ps_set (i := 4) sc__law_all.nd rfl (by first | exact Or.inl rfl | exact Or.inr rfl) (pe_strT (show (PySem.Str.ofString "Object") = T [79, 98, 106, 101, 99, 116] by decide +kernel)))
      (pss_cons (ps_set (i := 5) sc__law_all.nd rfl (by first | exact Or.inl rfl | exact Or.inr rfl) (pe_lst pa_nil))
      (pss_cons (ps_for PassesOwn.never rfl (pi_list (pv 0)) (pg_name (i := 6) sc__law_all.nd rfl (by first | exact Or.inl rfl | exact Or.inr rfl)) (pss_one (ps_if (pt_cmpR (op_eqU hu64) (pe_ix (ix_U hu1) (pv 6) pe_int (fun _ _ => rfl)) (pv 1) (by first | exact nomark _ | rfl)) (pss_cons (ps_set (i := 5) sc__law_all.nd rfl (by first | exact Or.inl rfl | exact Or.inr rfl) (pe_callTy call_listU (by rfl) W.n_list bb_list (pa_cons (pe_ix (ix_U hu1) (pv 6) pe_int (fun _ _ => rfl)) pa_nil)))
      (pss_one (ps_set (i := 4) sc__law_all.nd rfl (by first | exact Or.inl rfl | exact Or.inr rfl) (pe_ix (ix_U hu1) (pv 6) pe_int (fun _ _ => rfl))))) pss_nil)))
      (pss_cons (ps_set (i := 2) sc__law_all.nd rfl (by first | exact Or.inl rfl | exact Or.inr rfl) (pe_op op_addU (pv 5) (pv 2)))
      (pss_one (ps_set (i := 1) sc__law_all.nd rfl (by first | exact Or.inl rfl | exact Or.inr rfl) (pv 4))))))))
      (pss_one (ps_ret (pv 2))))), ?_⟩
  refine z_start (σ := [some _, some _, none, none, none, none, none]) rfl ?_
  one_sign
  refine z_newL (by show 0 ≤ sizeLine; decide) fun q0 H1 hq0 f1 e1 => ?_
  one_sign
  refine z_rng1 20 rfl (by decide) ?_
  refine for_range (lo := 0) (n := 20) (fun i σ H' => ∃ (nn : Str) (acc : List Str) (q : Addr) (v3 v4 v5 v6 : Option V), σ = [some (.ref l), some (.str nn), some (.ref q), v3, v4, v5, v6] ∧ lall R 20 n = lall R (20 - i) nn ++ acc ∧ acc.length ≤ i * 40 ∧ H' q = some (.lst (acc.map V.str)) ∧ H q = none ∧ Fr [] H H')
    ⟨n, [], q0, _, _, _, _, rfl, by rw [List.append_nil], by simp, e1, hq0, f1⟩ (fun i σ H2 hi hI => ?_) (fun σ H2 hI => ?_)
  · obtain ⟨nn, acc, q, v3, v4, v5, v6, rfl, hl, hacc, hq, hqn, f2⟩ := hI
    one_sign
    refine z_newL (by show 0 ≤ sizeLine; decide) fun q3 H3 hq3 f3 e3 => ?_
    have f23 := f2.trans f3
    have hl3 := f23.g0 S.l
    one_sign
    refine for_list (K := K) (a := l) (xs := A.map V.ref) (fun j σ H' => ∃ (o : Addr) (v6 : Option V), σ = [some (.ref l), some (.str nn), some (.ref q), some (.int (0 + (i : Int))), some (.str (lk (R.take j) nn).1), some (.ref o), v6] ∧ H' o = some (.lst ((lk (R.take j) nn).2.map V.str)) ∧ Fr [] H3 H' ∧ H o = none)
      ⟨q3, _, rfl, e3, Fr.rfl', f2.none hq3⟩ (fun j σ H' _ e => by obtain ⟨o, v, _, _, f, _⟩ := e; exact SqL.of (f.g0 hl3)) (fun j x σ H4 hx hJ => ?_) (fun σ H4 hJ => ?_)
    · obtain ⟨o, v, rfl, ho, f4, hon⟩ := hJ
      rw [List.getElem?_map] at hx
      obtain ⟨a, ha, rfl⟩ := Option.map_eq_some_iff.mp hx
      obtain ⟨r, hr'⟩ : ∃ r, R[j]? = some r := ⟨_, List.getElem?_eq_getElem (by rw [← S.len]; exact (List.getElem?_eq_some_iff.mp ha).1)⟩
      obtain ⟨oo, a1, a2⟩ := S.it j a r ha hr'
      have f04 := f23.trans f4
      have b1 := f04.g0 a1
      have b2 := f04.g0 a2
      one_sign
      refine z_ixT b1 (atI_nat (j := 0) rfl) ?_
      one_sign
      refine iteD (fun h => ?_) (fun h => ?_)
      · one_sign
        refine z_ixT b1 (atI_nat (j := 2) rfl) ?_
        one_sign
        refine z_listL b2 fun o5 H5 ho5 f5 e5 => ?_
        have b5 := f5.g0 b1
        one_sign
        refine z_ixT b5 (atI_nat (j := 1) rfl) ?_
        one_sign
        exact ⟨o5, some (.ref a), by rw [lk_take hr', if_pos h], by rw [lk_take hr', if_pos h]; exact e5, f4.trans f5, f04.none ho5⟩
      · one_sign
        exact ⟨o, some (.ref a), by rw [lk_take hr', if_neg h], by rw [lk_take hr', if_neg h]; exact ho, f4, hon⟩
    · obtain ⟨o, v, rfl, ho, f4, hon⟩ := hJ
      rw [List.length_map, S.len, List.take_length] at *
      have hq4 := (f3.trans f4).g0 hq
      have hlk := lk_len hR nn
      one_sign
      refine z_addL ho hq4 (by rw [List.length_map, List.length_map, sizeLine_eq]; omega) fun q5 H5 hq5 f5 e5 => ?_
      one_sign
      refine ⟨(lk R nn).1, (lk R nn).2 ++ acc, q5, _, _, _, _, rfl, ?_, by rw [List.length_append]; omega, by rw [List.map_append]; exact e5, (f23.trans f4).none hq5, (f23.trans f4).trans f5⟩
      rw [hl, show 20 - i = (20 - (i + 1)) + 1 by omega]
      show (lall R (20 - (i + 1)) (lk R nn).1 ++ (lk R nn).2) ++ acc = _
      rw [List.append_assoc]
  · obtain ⟨nn, acc, q, v3, v4, v5, v6, rfl, hl, hacc, hq, hqn, f2⟩ := hI
    one_sign
    rw [show lall R 20 n = acc from hl] at k
    exact k H2 q f2 hqn hq
def sp_lund : Sp := fun vs H Q _ => ∃ l A R n o, vs = [.ref l, .str n, .str o] ∧ LkA H l A R ∧ Q (.bl (lund R 20 n o)) H
theorem ok__law_under (W : Wd P K mg) : FnOk P w K mg base CX0 1 W.f__law_under W.fd__law_under ["_law_kinds_here", "_law_name", "_law_other"] sp_lund := by
  refine W.F__law_under.ok sc__law_under (fun vs H Q E h => by obtain ⟨l, A, R, n, o, rfl, S, k⟩ := h; rfl) (fun cdv A outer s H vs Q E hr h => ?_)
  obtain ⟨l, A, R, n, o, rfl, S, k⟩ := h
  have hu1 := hu_of hr
  have hu64 := hu64_of hr
  refine ⟨_, (pss_cons (ps_for PassesOwn.never rfl (pi_range1 (by rfl) W.n_range (pa_cons pe_int pa_nil)) (pg_name (i := 3) sc__law_under.nd rfl (by first | exact Or.inl rfl | exact Or.inr rfl)) (pss_cons (ps_if (pt_cmpR (op_eqU hu64) (pv 1) (pv 2) (by first | exact nomark _ | rfl)) (pss_one (ps_ret pe_bl)) pss_nil)
      (pss_cons (ps_set (i := 4) sc__law_under.nd rfl (by first | exact Or.inl rfl | exact Or.inr rfl) (pe_strT (show (PySem.Str.ofString "Object") = T [79, 98, 106, 101, 99, 116] by decide +kernel)))
      (pss_cons (ps_for PassesOwn.never rfl (pi_list (pv 0)) (pg_name (i := 5) sc__law_under.nd rfl (by first | exact Or.inl rfl | exact Or.inr rfl)) (pss_one (ps_if (pt_cmpR (op_eqU hu64) (pe_ix (ix_U hu1) (pv 5) pe_int (fun _ _ => rfl)) (pv 1) (by first | exact nomark _ | rfl)) (pss_one (ps_set (i := 4) sc__law_under.nd rfl (by first | exact Or.inl rfl | exact Or.inr rfl) (pe_ix (ix_U hu1) (pv 5) pe_int (fun _ _ => rfl)))) pss_nil)))
      (pss_one (ps_set (i := 1) sc__law_under.nd rfl (by first | exact Or.inl rfl | exact Or.inr rfl) (pv 4)))))))
      (pss_one (ps_ret (pe_cmpR (op_eqU hu64) (pv 1) (pv 2) (by first | exact nomark _ | rfl))))), ?_⟩
  refine z_start (σ := [some _, some _, some _, none, none, none]) rfl ?_
  one_sign
  refine z_rng1 20 rfl (by decide) ?_
  refine for_range (lo := 0) (n := 20) (fun i σ H' => ∃ (nn : Str) (v3 v4 v5 : Option V), σ = [some (.ref l), some (.str nn), some (.str o), v3, v4, v5] ∧ lund R 20 n o = lund R (20 - i) nn o ∧ H' = H)
    ⟨n, _, _, _, rfl, rfl, rfl⟩ (fun i σ H2 hi hI => ?_) (fun σ H2 hI => ?_)
  · obtain ⟨nn, v3, v4, v5, rfl, hl, rfl⟩ := hI
    have e20 : lund R (20 - i) nn o = (decide (nn = o) || lund R (20 - (i + 1)) (lk R nn).1 o) := by rw [show 20 - i = (20 - (i + 1)) + 1 by omega]; rfl
    one_sign
    refine iteD (fun h => ?_) (fun h => ?_)
    · one_sign
      rw [hl, e20, decide_eq_true h] at k
      exact k
    rw [decide_eq_false h, Bool.false_or] at e20
    have hl3 := S.l
    one_sign
    refine for_list (K := K) (a := l) (xs := A.map V.ref) (fun j σ H' => ∃ (v5 : Option V), σ = [some (.ref l), some (.str nn), some (.str o), some (.int (0 + (i : Int))), some (.str (lk (R.take j) nn).1), v5] ∧ H' = H2)
      ⟨_, rfl, rfl⟩ (fun j σ H' _ e => by obtain ⟨v, _, e⟩ := e; rw [e]; exact SqL.of hl3) (fun j x σ H4 hx hJ => ?_) (fun σ H4 hJ => ?_)
    · obtain ⟨v, rfl, rfl⟩ := hJ
      rw [List.getElem?_map] at hx
      obtain ⟨a, ha, rfl⟩ := Option.map_eq_some_iff.mp hx
      obtain ⟨r, hr'⟩ : ∃ r, R[j]? = some r := ⟨_, List.getElem?_eq_getElem (by rw [← S.len]; exact (List.getElem?_eq_some_iff.mp ha).1)⟩
      obtain ⟨oo, a1, a2⟩ := S.it j a r ha hr'
      one_sign
      refine z_ixT a1 (atI_nat (j := 0) rfl) ?_
      one_sign
      refine iteD (fun h => ?_) (fun h => ?_)
      · one_sign
        refine z_ixT a1 (atI_nat (j := 1) rfl) ?_
        one_sign
        exact ⟨some (.ref a), by rw [lk_take hr', if_pos h], rfl⟩
      · one_sign
        exact ⟨some (.ref a), by rw [lk_take hr', if_neg h], rfl⟩
    · obtain ⟨v, rfl, rfl⟩ := hJ
      rw [List.length_map, S.len, List.take_length] at *
      one_sign
      exact ⟨(lk R nn).1, _, _, _, rfl, by rw [hl, e20], rfl⟩
  · obtain ⟨nn, v3, v4, v5, rfl, hl, rfl⟩ := hI
    one_sign
    rw [hl] at k
    exact k
end

end LX
namespace LX
open PySem PySem.Spec PyProof.Rows L2 NdefX
def KERN : List Str := [T [79, 98, 106, 101, 99, 116], T [67, 108, 97, 115, 115], T [85, 110, 100, 101, 102, 105, 110, 101, 100], T [84, 114, 117, 101], T [70, 97, 108, 115, 101], T [73, 110, 116, 101, 103, 101, 114], T [83, 121, 109, 98, 111, 108], T [65, 114, 114, 97, 121], T [65, 115, 115, 111, 99, 105, 97, 116, 105, 111, 110], T [77, 101, 116, 104, 111, 100], T [67, 111, 100, 101], T [66, 108, 111, 99, 107], T [67, 111, 110, 116, 101, 120, 116], T [80, 114, 111, 99, 101, 115, 115], T [83, 101, 109, 97, 112, 104, 111, 114, 101]]
def wKERNEL : Str := T [107, 101, 114, 110, 101, 108]
def wNAME : Str := T [110, 97, 109, 101]
def wSUPER : Str := T [115, 117, 112, 101, 114]
def wRING : Str := T [114, 105, 110, 103]
def wFIELD : Str := T [102, 105, 101, 108, 100]
def wTWICE : Str := T [116, 119, 105, 99, 101]
def wMANY : Str := T [109, 97, 110, 121]

def kkd (n : Str) : Kd := ⟨n, some OBJ, []⟩
def okd : Kd := ⟨OBJ, none, []⟩
def rkd (r : Rw) : Kd := ⟨r.nm, some r.ab, r.own⟩
def gv (R : List Rw) : List Kd := (okd :: KERN.tail.map kkd) ++ R.map rkd
def nms (R : List Rw) : List Str := R.map Rw.nm
structure Gd (R : List Rw) : Prop where
  nd : (nms R).Nodup
  nk : ∀ n ∈ nms R, n ∉ KERN
theorem obj_kern : OBJ ∈ KERN := List.mem_cons_self
theorem find_app {α : Type} {p : α → Bool} {l1 l2 : List α} (h : ∀ x ∈ l1, p x = false) : (l1 ++ l2).find? p = l2.find? p := by
  rw [List.find?_append]
  have : l1.find? p = none := List.find?_eq_none.mpr fun x hx => by rw [h x hx]; simp
  rw [this]; rfl
theorem kern_nm {k : Kd} (h : k ∈ okd :: KERN.tail.map kkd) : k.nm ∈ KERN := by
  rcases List.mem_cons.mp h with e | e
  · rw [e]; exact obj_kern
  · obtain ⟨n, hn, rfl⟩ := List.mem_map.mp e
    exact List.mem_of_mem_tail hn
theorem find_out (R : List Rw) {n : Str} (h : n ∉ KERN) : (gv R).find? (nmI n) = (R.map rkd).find? (nmI n) :=
  find_app fun k hk => decide_eq_false fun e => h (by rw [← e]; exact kern_nm hk)
theorem nmI_self (k : Kd) : nmI k.nm k = true := decide_eq_true rfl
theorem find_obj (R : List Rw) : (gv R).find? (nmI OBJ) = some okd := by
  show (okd :: ((KERN.tail.map kkd) ++ R.map rkd)).find? (nmI OBJ) = _
  exact List.find?_cons_of_pos (nmI_self okd)
theorem find_kk (R : List Rw) {n : Str} (h : n ∈ KERN.tail) : ∃ k, (gv R).find? (nmI n) = some k := by
  have : ((gv R).find? (nmI n)).isSome = true := by
    rw [List.find?_isSome]
    exact ⟨kkd n, List.mem_append_left _ (List.mem_cons_of_mem _ (List.mem_map_of_mem h)), decide_eq_true rfl⟩
  exact Option.isSome_iff_exists.mp this
theorem find_kkd (R : List Rw) {n : Str} (h : n ∈ KERN.tail) : (gv R).find? (nmI n) = some (kkd n) := by
  obtain ⟨k, hk⟩ := find_kk R h
  have hn := Up.nm hk
  have hm := List.mem_of_find?_eq_some hk
  rw [hk]
  unfold gv at hk
  rw [List.find?_append] at hk
  have hne : n ≠ OBJ := by
    intro e
    subst e
    exact absurd h (by decide)
  cases e : (okd :: KERN.tail.map kkd).find? (nmI n) with
  | none =>
    have := List.find?_eq_none.mp e (kkd n) (List.mem_cons_of_mem _ (List.mem_map_of_mem h))
    exact absurd (decide_eq_true rfl) this
  | some k' =>
    rw [e] at hk
    obtain rfl : k' = k := by simpa using hk
    have hm' := List.mem_of_find?_eq_some e
    rcases List.mem_cons.mp hm' with e' | e'
    · exact absurd (by rw [← hn, e']; rfl) hne
    · obtain ⟨m, _, rfl⟩ := List.mem_map.mp e'
      rw [show m = n from hn]
theorem find_row {R : List Rw} (g : Gd R) {r : Rw} (h : r ∈ R) : (gv R).find? (nmI r.nm) = some (rkd r) := by
  rw [find_out R (g.nk _ (List.mem_map_of_mem h))]
  have nd := g.nd
  clear g
  induction R with
  | nil => cases h
  | cons x R ih =>
    obtain ⟨h1, h2⟩ := List.nodup_cons.mp nd
    rcases List.mem_cons.mp h with rfl | h
    · exact List.find?_cons_of_pos (nmI_self (rkd r))
    · rw [List.map_cons, List.find?_cons_of_neg (by
        have : x.nm ≠ r.nm := fun e => h1 (by rw [e]; exact List.mem_map_of_mem h)
        show ¬ decide ((rkd x).nm = r.nm) = true
        simp only [decide_eq_true_eq]
        exact this)]
      exact ih h h2
theorem find_no {R : List Rw} {n : Str} (h1 : n ∉ KERN) (h2 : n ∉ nms R) : (gv R).find? (nmI n) = none := by
  rw [find_out R h1]
  refine List.find?_eq_none.mpr fun k hk => ?_
  obtain ⟨r, hr, rfl⟩ := List.mem_map.mp hk
  show ¬ decide ((rkd r).nm = n) = true
  simp only [decide_eq_true_eq]
  exact fun e => h2 (by rw [← e]; exact List.mem_map_of_mem hr)
theorem lk_no {R : List Rw} {n : Str} (h : n ∉ nms R) : lk R n = (OBJ, []) := by
  have : ∀ (R : List Rw) (s : Str × List Str), n ∉ nms R → R.foldl (fun s r => if r.nm = n then (r.ab, r.own) else s) s = s := by
    intro R
    induction R with
    | nil => exact fun _ _ => rfl
    | cons x R ih =>
      intro s h
      have hx : x.nm ≠ n := fun e => h (by rw [← e]; exact List.mem_cons_self)
      rw [List.foldl_cons, if_neg hx]
      exact ih s fun m => h (List.mem_cons_of_mem _ m)
  exact this R _ h
theorem lk_row {R : List Rw} (nd : (nms R).Nodup) {r : Rw} (h : r ∈ R) : lk R r.nm = (r.ab, r.own) := by
  have : ∀ (R : List Rw) (s : Str × List Str), (nms R).Nodup → r ∈ R → R.foldl (fun s x => if x.nm = r.nm then (x.ab, x.own) else s) s = (r.ab, r.own) := by
    intro R
    induction R with
    | nil => intro _ _ h; cases h
    | cons x R ih =>
      intro s nd h
      obtain ⟨h1, h2⟩ := List.nodup_cons.mp nd
      rw [List.foldl_cons]
      rcases List.mem_cons.mp h with rfl | h
      · rw [if_pos rfl]
        have : ∀ (R : List Rw) (s : Str × List Str), r.nm ∉ nms R → R.foldl (fun s x => if x.nm = r.nm then (x.ab, x.own) else s) s = s := by
          intro R
          induction R with
          | nil => exact fun _ _ => rfl
          | cons x R ih =>
            intro s h
            rw [List.foldl_cons, if_neg fun e => h (by rw [← e]; exact List.mem_cons_self)]
            exact ih s fun m => h (List.mem_cons_of_mem _ m)
        exact this R _ h1
      · rw [if_neg fun e => h1 (by rw [show x.nm = r.nm from e]; exact List.mem_map_of_mem h)]
        exact ih s h2 h
  exact this R _ nd h
/-- the way up, by the law's classes -/
inductive Cn (R : List Rw) : Str → List Rw → Prop
  | obj : Cn R OBJ []
  | row {r : Rw} {c : List Rw} : r ∈ R → Cn R r.ab c → Cn R r.nm (r :: c)
def cfl : List Rw → List Str
  | [] => []
  | r :: c => cfl c ++ r.own
theorem Cn.up {R : List Rw} (g : Gd R) {n : Str} {c : List Rw} (h : Cn R n c) : Up (gv R) (some n) (c.map rkd ++ [okd]) := by
  induction h with
  | obj => exact .cons (find_obj R) .nil
  | row hr _ ih => exact .cons (find_row g hr) ih
theorem cfl_flK (c : List Rw) : flK (c.map rkd ++ [okd]) = cfl c := by
  induction c with
  | nil => rfl
  | cons r c ih => show flK (c.map rkd ++ [okd]) ++ r.own = _; rw [ih]; rfl
theorem obj_no {R : List Rw} (g : Gd R) : OBJ ∉ nms R := fun h => g.nk _ h obj_kern
theorem lall_obj {R : List Rw} (g : Gd R) : ∀ k, lall R k OBJ = []
  | 0 => rfl
  | k + 1 => by unfold lall; rw [lk_no (obj_no g), lall_obj g k]; rfl
theorem Cn.lall {R : List Rw} (g : Gd R) {n : Str} {c : List Rw} (h : Cn R n c) : ∀ k, c.length ≤ k → lall R k n = cfl c := by
  induction h with
  | obj => exact fun k _ => lall_obj g k
  | @row r c hr _ ih =>
    intro k hk
    cases k with
    | zero => simp at hk
    | succ k =>
      show LX.lall R k (lk R r.nm).1 ++ (lk R r.nm).2 = _
      rw [lk_row g.nd hr, ih k (by simpa using hk)]
      rfl
theorem lund_obj {R : List Rw} (g : Gd R) (o : Str) : ∀ k, lund R k OBJ o = decide (o = OBJ)
  | 0 => by unfold lund; exact decide_eq_decide.mpr ⟨Eq.symm, Eq.symm⟩
  | k + 1 => by
    unfold lund
    rw [lk_no (obj_no g), lund_obj g o k]
    by_cases h : OBJ = o
    · subst h; simp
    · rw [decide_eq_false h, Bool.false_or]
theorem Cn.lund {R : List Rw} (g : Gd R) {n : Str} {c : List Rw} (h : Cn R n c) (o : Str) : ∀ k, c.length ≤ k → lund R k n o = decide (o ∈ (c.map rkd ++ [okd]).map Kd.nm) := by
  induction h with
  | obj => exact fun k _ => by rw [lund_obj g]; exact decide_eq_decide.mpr (by simp [okd])
  | @row r c hr _ ih =>
    intro k hk
    cases k with
    | zero => simp at hk
    | succ k =>
      show (decide (r.nm = o) || LX.lund R k (lk R r.nm).1 o) = _
      rw [lk_row g.nd hr, ih k (by simpa using hk)]
      by_cases e : r.nm = o
      · rw [decide_eq_true e, decide_eq_true (show o ∈ ((r :: c).map rkd ++ [okd]).map Kd.nm from by rw [List.map_cons, List.cons_append, List.map_cons]; exact List.mem_cons.mpr (Or.inl e.symm))]; rfl
      · rw [decide_eq_false e, Bool.false_or]
        refine decide_eq_decide.mpr ?_
        rw [List.map_cons, List.cons_append, List.map_cons]
        exact ⟨List.mem_cons_of_mem _, fun z => (List.mem_cons.mp z).resolve_left fun q => e q.symm⟩
theorem und_iff {R : List Rw} (g : Gd R) {n : Str} {c : List Rw} {o : Str} (ho : o ∉ KERN) : decide (o ∈ (c.map rkd ++ [okd]).map Kd.nm) = decide (o ∈ nms c) := by
  refine decide_eq_decide.mpr ?_
  rw [List.map_append, List.mem_append, List.map_map]
  constructor
  · rintro (h | h)
    · exact h
    · rw [List.map_singleton, List.mem_singleton] at h
      exact absurd (by rw [h]; exact obj_kern) ho
  · exact Or.inl
theorem Cn.sub {R : List Rw} {n : Str} {c : List Rw} (h : Cn R n c) : ∀ r ∈ c, r ∈ R := by
  induction h with
  | obj => intro r hr; cases hr
  | row hr _ ih =>
    intro x hx
    rcases List.mem_cons.mp hx with rfl | hx
    · exact hr
    · exact ih x hx
theorem cfl_len {b : Nat} : ∀ {c : List Rw}, (∀ r ∈ c, r.own.length ≤ b) → (cfl c).length ≤ c.length * b
  | [], _ => by simp [cfl]
  | r :: c, h => by
    have := cfl_len (c := c) fun x hx => h x (List.mem_cons_of_mem _ hx)
    have h2 := h r List.mem_cons_self
    show (cfl c ++ r.own).length ≤ (c.length + 1) * b
    rw [List.length_append, Nat.succ_mul]
    omega
/-- each class has a way up, of at most b steps -/
def Wf (R : List Rw) (b : Nat) : Prop := ∀ r ∈ R, ∃ c, Cn R r.nm c ∧ c.length ≤ b
theorem Cn.mono {R R' : List Rw} (h : ∀ r ∈ R, r ∈ R') {n : Str} {c : List Rw} (hc : Cn R n c) : Cn R' n c := by
  induction hc with
  | obj => exact .obj
  | row hr _ ih => exact .row (h _ hr) ih
def bh (R : List Rw) (n a : Str) (o : List Str) : List Rw := R.map fun r => if r.nm = n then ⟨n, a, o⟩ else r
theorem bh_nms (R : List Rw) (n a : Str) (o : List Str) : nms (bh R n a o) = nms R := by
  unfold nms bh
  rw [List.map_map]
  refine List.map_congr_left fun r _ => ?_
  show (if r.nm = n then (⟨n, a, o⟩ : Rw) else r).nm = r.nm
  by_cases e : r.nm = n
  · rw [if_pos e]; exact e.symm
  · rw [if_neg e]
theorem Gd.bh {R : List Rw} (g : Gd R) (n a : Str) (o : List Str) : Gd (bh R n a o) := ⟨by rw [bh_nms]; exact g.nd, by rw [bh_nms]; exact g.nk⟩
theorem bh_mem {R : List Rw} {n a : Str} {o : List Str} {r : Rw} (h : r ∈ R) (e : r.nm ≠ n) : r ∈ bh R n a o := List.mem_map.mpr ⟨r, h, if_neg e⟩
theorem bh_new {R : List Rw} {n a : Str} {o : List Str} (h : n ∈ nms R) : (⟨n, a, o⟩ : Rw) ∈ bh R n a o := by
  obtain ⟨r, hr, e⟩ := List.mem_map.mp h
  exact List.mem_map.mpr ⟨r, hr, if_pos e⟩
theorem Cn.bh0 {R : List Rw} {n a : Str} {o : List Str} {m : Str} {c : List Rw} (h : Cn R m c) (hn : n ∉ nms c) : Cn (bh R n a o) m c := by
  induction h with
  | obj => exact .obj
  | @row r c hr _ ih =>
    refine .row (bh_mem hr fun e => hn (by rw [← e]; exact List.mem_cons_self)) (ih fun z => hn (List.mem_cons_of_mem _ z))
theorem Cn.bh {R : List Rw} {n a : Str} {o : List Str} (hn : n ∈ nms R) {ca : List Rw} (ha : Cn R a ca) (hna : n ∉ nms ca) {m : Str} {c : List Rw} (h : Cn R m c) : ∃ c', Cn (bh R n a o) m c' ∧ c'.length ≤ c.length + ca.length := by
  induction h with
  | obj => exact ⟨[], .obj, by simp⟩
  | @row r c hr _ ih =>
    by_cases e : r.nm = n
    · exact ⟨⟨n, a, o⟩ :: ca, by rw [e]; exact .row (r := ⟨n, a, o⟩) (bh_new hn) (ha.bh0 hna), by simp only [List.length_cons]; omega⟩
    · obtain ⟨c', h1, h2⟩ := ih
      exact ⟨r :: c', .row (bh_mem hr e) h1, by simp only [List.length_cons]; omega⟩
theorem bh_own {R : List Rw} {n a : Str} {o : List Str} {b : Nat} (h : ∀ r ∈ R, r.own.length ≤ b) (ho : o.length ≤ b) : ∀ r ∈ bh R n a o, r.own.length ≤ b := by
  intro r hr
  obtain ⟨x, hx, rfl⟩ := List.mem_map.mp hr
  by_cases e : x.nm = n
  · rw [if_pos e]; exact ho
  · rw [if_neg e]; exact h x hx
/-! ### the words of refusal -/
def gdS (z : Str) : Bool := gdN z.cps.toList
def fldW : List Str → List Str → Str
  | _, [] => T []
  | s, z :: r => if gdS z = true then if z ∈ s then wTWICE else fldW (s ++ [z]) r else wFIELD
def clsW (R R2 : List Rw) (n : Str) : List Rw → Str
  | [] => T []
  | r :: L => if lund R 20 r.nm n = true then if (lall R2 20 r.nm).Nodup then if 32 < (lall R2 20 r.nm).length then wMANY else clsW R R2 n L else wTWICE else clsW R R2 n L
def why1 (R : List Rw) (n a : Str) : Str :=
  if n ∈ KERN then wKERNEL else if n ∉ nms R then wNAME else if a ≠ OBJ ∧ a ∉ nms R then wSUPER else if a ≠ OBJ ∧ lund R 20 a n = true then wRING else T []
def why (R : List Rw) (n a : Str) (o : List Str) : Str :=
  if why1 R n a ≠ T [] then why1 R n a else if fldW [] o ≠ T [] then fldW [] o else clsW R (bh R n a o) n R
def chs (R R2 : List Rw) (n : Str) (L : List Rw) : List Ch := (L.filter fun r => lund R 20 r.nm n).map fun r => ⟨r.nm, lall R 20 r.nm, lall R2 20 r.nm⟩

end LX
namespace LX
open PySem PySem.Spec PyProof.Rows L2 NdefX
set_option hygiene false in
local macro_rules | `(tactic| k_memK) => `(tactic| first | exact W.na_Kind_name | exact W.na_Kind_superclass | exact W.na_Kind_fields | exact W.na_Change_name | exact W.na_Change_old | exact W.na_Change_new | exact W.na_Change_origins)
set_option hygiene false in
local macro_rules | `(tactic| k_ownIn) => `(tactic| first | exact W.C_Kind | exact W.C_Change)
local macro_rules | `(tactic| none_booked) => `(tactic| first | assumption | (refine Fr.g0 (by assumption) ?_; none_booked))
local macro_rules | `(tactic| one_sign) => `(tactic| repeat (first
  | refine Stp.h ?_
  | ((with_reducible refine' z_fld1 ?k0 ?k1 ?k2 ?k3 ?_); (case k0 => none_booked); (case k1 => k_ownIn); (case k2 => k_memK); (case k3 => rfl))
  | ((with_reducible refine' z_meth1 ?k0 ?k1 ?_); (case k0 => none_booked); (case k1 => rfl))
  | ((with_reducible refine' z_bmL ?k0 ?_); (case k0 => none_booked))
  | ((with_reducible refine' z_lenL ?k0 ?_); (case k0 => none_booked))
  | ((with_reducible refine' z_lenT ?k0 ?_); (case k0 => none_booked))
  | ((with_reducible refine' z_lenD ?k0 ?_); (case k0 => none_booked))
  | ((with_reducible refine' z_truL ?k0 ?_); (case k0 => none_booked))
  | ((with_reducible refine' z_truD ?k0 ?_); (case k0 => none_booked))
  | ((with_reducible refine' z_truT ?k0 ?_); (case k0 => none_booked))
  | ((with_reducible refine' z_inDIP ?k0 ?_); (case k0 => none_booked))
  | ((with_reducible refine' z_inDIN ?k0 ?_); (case k0 => none_booked))
  | ((with_reducible refine' z_inDfP ?k0 ?_); (case k0 => none_booked))
  | ((with_reducible refine' z_inDfN ?k0 ?_); (case k0 => none_booked))
  | ((with_reducible refine' z_iList1 ?k0 ?_); (case k0 => none_booked))
  | ((with_reducible refine' z_isi0 ?k0 ?k1 ?k2 ?_); (case k0 => exact (ClsV.ty _)); (case k1 => exact (TyX.base (TyOf.lst (by none_booked)))); (case k2 => first | exact kt_list_int | exact kt_list_bool | exact kt_list_str | exact kt_list_list | exact kt_list_tuple | exact kt_list_dict))
  | ((with_reducible refine' z_rI ?k0 ?_); (case k0 => first | exact (by decide : (0 : Int) < _) | exact ⟨by decide, by decide⟩ | exact ⟨by decide, by decide, by decide⟩ | (show (0 : Int) < _; omega)))
  | ((with_reducible refine' z_mulI ?k0 ?_); (case k0 => first | exact Or.inr ⟨by decide, by decide⟩ | exact Or.inl ⟨by decide, by decide⟩ | exact Or.inl ⟨by omega, by omega⟩ | exact Or.inr ⟨by omega, by omega⟩))))
local macro_rules | `(tactic| leaf_len) => `(tactic| (simp only [wipe, List.map_cons, List.map_nil, List.set_cons_zero, List.set_cons_succ]; one_sign; refine z_ok rfl ?_; one_sign))
theorem cut_to (ys : List V) (k : Nat) (h : k ≤ ys.length) : cutV ys none (some (k : Int)) = ys.take k := by
  unfold cutV
  have h1 : HT.sIx ys.length 0 none = 0 := rfl
  have h2 : HT.sIx ys.length ys.length (some (k : Int)) = min k ys.length := HT.sIx_nat _ _ _
  rw [h1, h2]
  simp [Nat.min_eq_left h]
theorem gdS_T (z : Str) : z = T z.cps.toList := rfl
theorem fldW_drop {o : List Str} {i : Nat} {z : Str} (h : o[i]? = some z) : fldW (o.take i) (o.drop i) = if gdS z = true then if z ∈ o.take i then wTWICE else fldW (o.take (i + 1)) (o.drop (i + 1)) else wFIELD := by
  obtain ⟨hi, e⟩ := List.getElem?_eq_some_iff.mp h
  rw [← List.getElem_cons_drop hi, e, List.take_succ, h]
  rfl
def preW (R : List Rw) (n a : Str) (o : List Str) : Str := if why1 R n a ≠ T [] then why1 R n a else fldW [] o
/-- the class asked for is there: the way up -/
theorem up_of {R : List Rw} {b : Nat} (wf : Wf R b) {a : Str} (h : a = OBJ ∨ a ∈ nms R) : ∃ c, Cn R a c ∧ c.length ≤ b := by
  rcases h with h | h
  · subst h
    exact ⟨[], .obj, Nat.zero_le _⟩
  · obtain ⟨r, hr, rfl⟩ := List.mem_map.mp h
    exact wf r hr
theorem KERN_V : (KERN.map V.str).all flatV = true := flatS _
section
variable {P : Program} {w : World} {K : PySem.W.Frag} {mg : Str → Option Value} {base : Heap}
def sp_chk (C cB : Addr) : Sp := fun vs H Q E => ∃ l A R n a f o, vs = [.ref l, .str n, .str a, .ref f] ∧ KsA C H l A (gv R) ∧ Gd R ∧ Wf R 20 ∧ H f = some (.lst (o.map V.str)) ∧ o.length ≤ 40 ∧ (∀ z ∈ o, z.length ≤ 1000) ∧
  (preW R n a o ≠ T [] → ∀ H' d, Fr [] H H' → H' d = none → E (.ref cB) (some d) (L2.upd H' d (.xd [("why", .str (preW R n a o))]))) ∧ (preW R n a o = T [] → ∀ H', Fr [] H H' → Q .non H')
theorem ok_check_change (W : Wd P K mg) : FnOk P w K mg base (L2N.CX P w) 3 W.f_check_change W.fd_check_change ["kinds", "name", "superclass", "fields"] (sp_chk W.c_Kind W.c_BadClass) := by
  refine okN W.F_check_change sc_check_change (fun vs H Q E h => by obtain ⟨l, A, R, n, a, f, o, rfl, S, g, wf, hf, ho, hz, kE, kQ⟩ := h; rfl) (fun cdv A outer s H vs Q E hr h => ?_)
  obtain ⟨l, A, R, n, a, f, o, rfl, S, g, wf, hf, ho, hz, kE, kQ⟩ := h
  have hu1 := hu_of hr
  have hu64 := hu64_of hr
  refine ⟨_, (pss_cons (ps_set (i := 4) sc_check_change.nd rfl (by first | exact Or.inl rfl | exact Or.inr rfl) (pe_call (ok_kind_named W) (hr.mono (by decide)) rfl W.g_kind_named W.F_kind_named.kp W.b_kind_named .nil pass0 (pa_cons (pv 0) (pa_cons (pv 1) pa_nil))))
      (pss_cons (ps_if (pt_cmpR op_isU (pv 4) pe_non (by first | exact nomark _ | rfl)) (pss_one (L2N.ps_raise rfl (L2N.takes_of rfl rfl rfl rfl) (pmk_x W.X_BadClass W.i_BadClass (ok_BadClass___init__ W) (hr.mono (by decide)) W.b_BadClass___init__ pass0 rfl W.g_BadClass (pa_cons (pe_strT (show (PySem.Str.ofString "name") = T [110, 97, 109, 101] by decide +kernel)) pa_nil)))) pss_nil)
      (pss_cons (ps_if (pt_cmpR (op_inU hu1) (pv 1) (pe_gr rfl W.g_KERNEL) (by first | exact nomark _ | rfl)) (pss_one (L2N.ps_raise rfl (L2N.takes_of rfl rfl rfl rfl) (pmk_x W.X_BadClass W.i_BadClass (ok_BadClass___init__ W) (hr.mono (by decide)) W.b_BadClass___init__ pass0 rfl W.g_BadClass (pa_cons (pe_strT (show (PySem.Str.ofString "kernel") = T [107, 101, 114, 110, 101, 108] by decide +kernel)) pa_nil)))) pss_nil)
      (Evl.pss_cut (ps_if (PW.pt (pw_or (pt_cmpR op_isU (pe_call (ok_kind_named W) (hr.mono (by decide)) rfl W.g_kind_named W.F_kind_named.kp W.b_kind_named .nil pass0 (pa_cons (pv 0) (pa_cons (pv 2) pa_nil))) pe_non (by first | exact nomark _ | rfl)) (pw_or1 (PW.pt (pw_and (pt_cmpR (op_inU hu1) (pv 2) (pe_gr rfl W.g_KERNEL) (by first | exact nomark _ | rfl)) (pw_and1 (pt_cmpR (op_neU hu64) (pv 2) (pe_strT (show (PySem.Str.ofString "Object") = T [79, 98, 106, 101, 99, 116] by decide +kernel)) (by first | exact nomark _ | rfl)))))))) (pss_one (L2N.ps_raise rfl (L2N.takes_of rfl rfl rfl rfl) (pmk_x W.X_BadClass W.i_BadClass (ok_BadClass___init__ W) (hr.mono (by decide)) W.b_BadClass___init__ pass0 rfl W.g_BadClass (pa_cons (pe_strT (show (PySem.Str.ofString "super") = T [115, 117, 112, 101, 114] by decide +kernel)) pa_nil)))) pss_nil)
      (Evl.pss_cut (ps_if (pt_truth (pe_call (ok_is_under W) (hr.mono (by decide)) rfl W.g_is_under W.F_is_under.kp W.b_is_under .nil pass0 (pa_cons (pv 0) (pa_cons (pv 2) (pa_cons (pv 1) pa_nil)))) (by intro _; rfl)) (pss_one (L2N.ps_raise rfl (L2N.takes_of rfl rfl rfl rfl) (pmk_x W.X_BadClass W.i_BadClass (ok_BadClass___init__ W) (hr.mono (by decide)) W.b_BadClass___init__ pass0 rfl W.g_BadClass (pa_cons (pe_strT (show (PySem.Str.ofString "ring") = T [114, 105, 110, 103] by decide +kernel)) pa_nil)))) pss_nil)
      (pss_one (ps_for (passes_of rfl) rfl (pi_range1 (by rfl) W.n_range (pa_cons (pe_callB call_lenU (by rfl) W.n_len bb_len (pa_cons (pv 3) pa_nil)) pa_nil)) (pg_name (i := 5) sc_check_change.nd rfl (by first | exact Or.inl rfl | exact Or.inr rfl)) (pss_cons (ps_if (pt_not (pt_truth (pe_call (ok_is_name W) (hr.mono (by decide)) rfl W.g_is_name W.F_is_name.kp W.b_is_name .nil pass0 (pa_cons (pe_ix (ix_U hu1) (pv 3) (pv 5) (fun _ _ => rfl)) (pa_cons pe_bl pa_nil))) (by intro _; rfl))) (pss_one (L2N.ps_raise rfl (L2N.takes_of rfl rfl rfl rfl) (pmk_x W.X_BadClass W.i_BadClass (ok_BadClass___init__ W) (hr.mono (by decide)) W.b_BadClass___init__ pass0 rfl W.g_BadClass (pa_cons (pe_strT (show (PySem.Str.ofString "field") = T [102, 105, 101, 108, 100] by decide +kernel)) pa_nil)))) pss_nil)
      (pss_one (ps_if (pt_cmpR (op_inU hu1) (pe_ix (ix_U hu1) (pv 3) (pv 5) (fun _ _ => rfl)) (pe_slice sl_U (pv 3) po_none (po_some (pv 5))) (by first | exact nomark _ | rfl)) (pss_one (L2N.ps_raise rfl (L2N.takes_of rfl rfl rfl rfl) (pmk_x W.X_BadClass W.i_BadClass (ok_BadClass___init__ W) (hr.mono (by decide)) W.b_BadClass___init__ pass0 rfl W.g_BadClass (pa_cons (pe_strT (show (PySem.Str.ofString "twice") = T [116, 119, 105, 99, 101] by decide +kernel)) pa_nil)))) pss_nil)))))))))), ?_⟩
  refine z_start (σ := [some _, some _, some _, some _, none, none]) rfl ?_
  one_sign
  have bad : ∀ z, preW R n a o = z → z ≠ T [] → ∀ H' d, Fr [] H H' → H' d = none → E (.ref W.c_BadClass) (some d) (L2.upd H' d (.xd [("why", .str z)])) := fun z e hn H' d f1 hd => by
    rw [← e]
    exact kE (by rw [e]; exact hn) H' d f1 hd
  have KK : ∀ H' : Hp, SqT K H' W.a_KERNEL (KERN.map V.str) := fun H' => W.tp_KERNEL H'
  have found : ∀ {m : Str}, (gv R).find? (nmI m) = none → m ∉ KERN ∧ m ∉ nms R := fun {m} hn => by
    constructor
    · intro hm
      rcases List.mem_cons.mp (show m ∈ OBJ :: KERN.tail from hm) with e | e
      · rw [e, find_obj] at hn; cases hn
      · rw [find_kkd R e] at hn; cases hn
    · intro hm
      obtain ⟨r, hr, rfl⟩ := List.mem_map.mp hm
      rw [find_row g hr] at hn
      cases hn
  have w1 : ∀ {z : Str}, why1 R n a = z → z ≠ T [] → preW R n a o = z := fun {z} e hn => by unfold preW; rw [e, if_pos hn]
  refine ⟨l, A, gv R, n, rfl, S, fun i ad k ha hk hfd => ?_, fun hn => ?_⟩
  rotate_left
  · one_sign
    obtain ⟨h1, h2⟩ := found hn
    exact exc1_mk True.intro fun d hd => bad wNAME (w1 (by unfold why1; rw [if_neg h1, if_pos h2]) (by decide)) (by decide) H d Fr.rfl' hd
  one_sign
  refine z_inK (KK _) KERN_V ?_
  rw [inVS]
  one_sign
  refine iteD (fun hK => ?_) (fun hK => ?_)
  · one_sign
    exact exc1_mk True.intro fun d hd => bad wKERNEL (w1 (by unfold why1; rw [if_pos hK]) (by decide)) (by decide) H d Fr.rfl' hd
  one_sign
  have hn : n ∈ nms R := by
    have hnm := Up.nm hfd
    have hm := List.mem_of_find?_eq_some hfd
    rcases List.mem_append.mp hm with h | h
    · exact absurd (by rw [← hnm]; exact kern_nm h) hK
    · obtain ⟨r, hr, rfl⟩ := List.mem_map.mp h
      rw [← hnm]
      exact List.mem_map_of_mem hr
  have sup : a ≠ OBJ → a ∉ nms R → why1 R n a = wSUPER := fun h1 h2 => by
    unfold why1
    rw [if_neg hK, if_neg (fun z => z hn), if_pos ⟨h1, h2⟩]
  refine ⟨fun σ' H' => σ' = [some (.ref l), some (.str n), some (.str a), some (.ref f), some (.ref ad), none] ∧ H' = H ∧ (a = OBJ ∨ a ∈ nms R), ?_, fun σ' H' hM => ?_⟩
  · one_sign
    refine ⟨l, A, gv R, a, rfl, S, fun i2 ad2 k2 ha2 hk2 hfd2 => ?_, fun hn2 => ?_⟩
    · one_sign
      refine z_inK (KK _) KERN_V ?_
      rw [inVS]
      one_sign
      refine iteD (fun hK2 => ?_) (fun hK2 => ?_)
      · one_sign
        refine iteND (fun h => ?_) (fun h => ?_)
        · one_sign
          exact exc1_mk True.intro fun d hd => bad wSUPER (w1 (sup h fun z => g.nk _ z hK2) (by decide)) (by decide) H d Fr.rfl' hd
        · one_sign
          exact ⟨rfl, rfl, Or.inl h⟩
      · one_sign
        refine ⟨rfl, rfl, Or.inr ?_⟩
        refine Classical.byContradiction fun z => ?_
        rw [find_no hK2 z] at hfd2
        cases hfd2
    · one_sign
      obtain ⟨h1, h2⟩ := found hn2
      exact exc1_mk True.intro fun d hd => bad wSUPER (w1 (sup (fun e => h1 (by rw [e]; exact obj_kern)) h2) (by decide)) (by decide) H d Fr.rfl' hd
  obtain ⟨rfl, rfl, ha'⟩ := hM
  obtain ⟨ca, hca, hcl⟩ := up_of wf ha'
  have hu := hca.lund g n 20 hcl
  have ring : why1 R n a = if a ≠ OBJ ∧ lund R 20 a n = true then wRING else T [] := by
    unfold why1
    rw [if_neg hK, if_neg (fun z => z hn), if_neg (fun z => ha'.elim z.1 z.2)]
  refine ⟨fun σ' H2 => σ' = [some (.ref l), some (.str n), some (.str a), some (.ref f), some (.ref ad), none] ∧ H2 = H' ∧ why1 R n a = T [], ?_, fun σ' H' hM => ?_⟩
  · one_sign
    refine ⟨l, A, gv R, a, _, n, rfl, S, hca.up g, ?_⟩
    rw [← hu]
    refine ⟨_, rfl, ?_⟩
    refine iteB (fun h => ?_) (fun h => ?_)
    · one_sign
      have hne : a ≠ OBJ := fun e => by
        subst e
        rw [lund_obj g] at h
        exact hK (by rw [of_decide_eq_true h]; exact obj_kern)
      exact exc1_mk True.intro fun d hd => bad wRING (w1 (by rw [ring, if_pos ⟨hne, h⟩]) (by decide)) (by decide) _ d Fr.rfl' hd
    · one_sign
      exact ⟨rfl, rfl, by rw [ring, if_neg fun z => h z.2]⟩
  obtain ⟨rfl, rfl, hw⟩ := hM
  have hpre : preW R n a o = fldW [] o := by unfold preW; rw [hw, if_neg (fun z => z rfl)]
  one_sign
  rw [List.length_map]
  refine z_rng1 o.length rfl (by omega) ?_
  refine for_range (lo := 0) (n := o.length) (fun i σ H2 => ∃ v : Option V, σ = [some (.ref l), some (.str n), some (.str a), some (.ref f), some (.ref ad), v] ∧ fldW [] o = fldW (o.take i) (o.drop i) ∧ Fr [] H' H2)
    ⟨_, rfl, rfl, Fr.rfl'⟩ (fun i σ H2 hi hI => ?_) (fun σ H2 hI => ?_)
  · obtain ⟨v, rfl, hfl, f2⟩ := hI
    obtain ⟨z, hz'⟩ : ∃ z, o[i]? = some z := ⟨_, List.getElem?_eq_getElem hi⟩
    have hzv : atI (o.map V.str) (0 + (i : Int)) = some (V.str z) := by rw [Int.zero_add]; exact atI_nat (by rw [List.getElem?_map, hz']; rfl)
    rw [fldW_drop hz'] at hfl
    have hf2 := f2.g0 hf
    one_sign
    refine z_ixL hf2 hzv ?_
    one_sign
    refine ⟨z.cps.toList, rfl, hz z (List.mem_of_getElem? hz'), fun H3 f3 => ?_⟩
    refine ⟨_, rfl, ?_⟩
    have hf3 := f3.g0 hf2
    cases hgd : gdN z.cps.toList with
    | false =>
      rw [if_neg (by unfold gdS; rw [hgd]; simp)] at hfl
      refine iteT ?_
      one_sign
      exact exc1_mk True.intro fun d hd => bad wFIELD (by rw [hpre, hfl]) (by decide) _ d (f2.trans f3) hd
    | true =>
      rw [if_pos (by unfold gdS; rw [hgd])] at hfl
      refine iteF ?_
      one_sign
      refine z_ixL hf3 hzv ?_
      one_sign
      rw [Int.zero_add]
      refine z_slL hf3 fun q H4 hq f4 q4 => ?_
      rw [cut_to _ _ (by rw [List.length_map]; omega), ← List.map_take] at q4
      refine z_inLP q4 rfl (flatS _) ?_
      rw [inVS]
      one_sign
      refine iteD (fun hm => ?_) (fun hm => ?_)
      · one_sign
        rw [if_pos hm] at hfl
        exact exc1_mk True.intro fun d hd => bad wTWICE (by rw [hpre, hfl]) (by decide) _ d ((f2.trans f3).trans f4) hd
      · one_sign
        rw [if_neg hm] at hfl
        exact ⟨_, rfl, hfl, (f2.trans f3).trans f4⟩
  · obtain ⟨v, rfl, hfl, f2⟩ := hI
    rw [List.take_length, List.drop_length] at hfl
    one_sign
    exact kQ (by rw [hpre, hfl]; rfl) H2 f2
end

end LX
namespace LX
open PySem PySem.Spec PyProof.Rows L2 NdefX
set_option hygiene false in
local macro_rules | `(tactic| k_memK) => `(tactic| first | exact W.na_Kind_name | exact W.na_Kind_superclass | exact W.na_Kind_fields | exact W.na_Change_name | exact W.na_Change_old | exact W.na_Change_new | exact W.na_Change_origins)
set_option hygiene false in
local macro_rules | `(tactic| k_ownIn) => `(tactic| first | exact W.C_Kind | exact W.C_Change)
local macro_rules | `(tactic| none_booked) => `(tactic| first | assumption | (refine Fr.g0 (by assumption) ?_; none_booked))
local macro_rules | `(tactic| one_sign) => `(tactic| repeat (first
  | refine Stp.h ?_
  | ((with_reducible refine' z_fld1 ?k0 ?k1 ?k2 ?k3 ?_); (case k0 => none_booked); (case k1 => k_ownIn); (case k2 => k_memK); (case k3 => rfl))
  | ((with_reducible refine' z_meth1 ?k0 ?k1 ?_); (case k0 => none_booked); (case k1 => rfl))
  | ((with_reducible refine' z_bmL ?k0 ?_); (case k0 => none_booked))
  | ((with_reducible refine' z_lenL ?k0 ?_); (case k0 => none_booked))
  | ((with_reducible refine' z_lenT ?k0 ?_); (case k0 => none_booked))
  | ((with_reducible refine' z_lenD ?k0 ?_); (case k0 => none_booked))
  | ((with_reducible refine' z_truL ?k0 ?_); (case k0 => none_booked))
  | ((with_reducible refine' z_truD ?k0 ?_); (case k0 => none_booked))
  | ((with_reducible refine' z_truT ?k0 ?_); (case k0 => none_booked))
  | ((with_reducible refine' z_inDIP ?k0 ?_); (case k0 => none_booked))
  | ((with_reducible refine' z_inDIN ?k0 ?_); (case k0 => none_booked))
  | ((with_reducible refine' z_inDfP ?k0 ?_); (case k0 => none_booked))
  | ((with_reducible refine' z_inDfN ?k0 ?_); (case k0 => none_booked))
  | ((with_reducible refine' z_iList1 ?k0 ?_); (case k0 => none_booked))
  | ((with_reducible refine' z_isi0 ?k0 ?k1 ?k2 ?_); (case k0 => exact (ClsV.ty _)); (case k1 => exact (TyX.base (TyOf.lst (by none_booked)))); (case k2 => first | exact kt_list_int | exact kt_list_bool | exact kt_list_str | exact kt_list_list | exact kt_list_tuple | exact kt_list_dict))
  | ((with_reducible refine' z_rI ?k0 ?_); (case k0 => first | exact (by decide : (0 : Int) < _) | exact ⟨by decide, by decide⟩ | exact ⟨by decide, by decide, by decide⟩ | (show (0 : Int) < _; omega)))
  | ((with_reducible refine' z_mulI ?k0 ?_); (case k0 => first | exact Or.inr ⟨by decide, by decide⟩ | exact Or.inl ⟨by decide, by decide⟩ | exact Or.inl ⟨by omega, by omega⟩ | exact Or.inr ⟨by omega, by omega⟩))))
local macro_rules | `(tactic| leaf_len) => `(tactic| (simp only [wipe, List.map_cons, List.map_nil, List.set_cons_zero, List.set_cons_succ]; one_sign; refine z_ok rfl ?_; one_sign))
theorem mk_kind {C : Addr} {H : Hp} {R : Hp → Prop} {E : XK} {nm : Str} {sup : Option Str} {v : V} {f : Addr} {fl : List Str} (hv : v = optS sup) (hf : H f = some (.lst (fl.map V.str)) ∨ H f = some (.tup (fl.map V.str)))
    {x dx : Addr} (hx : H x = none) (hdx : H dx = none) (n : dx ≠ x) (h : ∀ H', Fr [] H H' → KdAt C H' x ⟨nm, sup, fl⟩ → R H') : sp_kinit C (.ref x :: ([.str nm, v, .ref f] ++ [])) (L2.upd (L2.upd H dx (.own x)) x (.ins C dx [])) (fun v H2 => v = .non ∧ R H2) E := by
  subst hv
  have hx0 : L2.upd H dx (.own x) x = none := by rw [upd_ne n.symm]; exact hx
  have f0 : Fr [] H (L2.upd (L2.upd H dx (.own x)) x (.ins C dx [])) := (Fr.new hdx).trans (Fr.new hx0)
  refine ⟨x, dx, nm, sup, f, fl, rfl, upd_same, hf.imp f0.g0 f0.g0, fun H1 f1 K1 => ⟨rfl, ?_⟩⟩
  exact h H1 (fun b o e _ => f1 b o (f0.g0 e) (nin (ne_of_none e hx))) K1
theorem mk_change {C : Addr} {H : Hp} {R : Hp → Prop} {E : XK} {nm : Str} {o n : Addr} {old new : List Str} (ho : H o = some (.lst (old.map V.str))) (hn : H n = some (.lst (new.map V.str))) (hl : new.length ≤ 1000)
    {x dx : Addr} (hx : H x = none) (hdx : H dx = none) (n' : dx ≠ x) (h : ∀ H', Fr [] H H' → ChAt C H' x ⟨nm, old, new⟩ → R H') : sp_chinit C (.ref x :: ([.str nm, .ref o, .ref n] ++ [])) (L2.upd (L2.upd H dx (.own x)) x (.ins C dx [])) (fun v H2 => v = .non ∧ R H2) E := by
  have hx0 : L2.upd H dx (.own x) x = none := by rw [upd_ne n'.symm]; exact hx
  have f0 : Fr [] H (L2.upd (L2.upd H dx (.own x)) x (.ins C dx [])) := (Fr.new hdx).trans (Fr.new hx0)
  refine ⟨x, dx, nm, o, n, old, new, rfl, upd_same, f0.g0 ho, f0.g0 hn, hl, fun H1 f1 K1 => ⟨rfl, ?_⟩⟩
  exact h H1 (fun b o e _ => f1 b o (f0.g0 e) (nin (ne_of_none e hx))) K1
def chk (n a : Str) (o : List Str) (k : Kd) : Kd := if k.nm = n then ⟨n, some a, o⟩ else k
theorem gv_bh {R : List Rw} {n a : Str} {o : List Str} (hn : n ∉ KERN) : gv (bh R n a o) = (gv R).map (chk n a o) := by
  unfold gv
  rw [List.map_append]
  congr 1
  · refine (List.map_id _).symm.trans ?_
    refine List.map_congr_left fun k hk => ?_
    unfold chk
    rw [if_neg fun e => hn (by rw [← e]; exact kern_nm hk)]
    rfl
  · unfold bh
    rw [List.map_map, List.map_map]
    refine List.map_congr_left fun r _ => ?_
    show rkd (if r.nm = n then (⟨n, a, o⟩ : Rw) else r) = chk n a o (rkd r)
    unfold chk
    by_cases e : r.nm = n
    · rw [if_pos e, if_pos (show (rkd r).nm = n from e)]; rfl
    · rw [if_neg e, if_neg (show ¬ (rkd r).nm = n from e)]
theorem gv_len (R : List Rw) : (gv R).length = 15 + R.length := by
  unfold gv
  rw [List.length_append, List.length_map]
  rfl
section
variable {P : Program} {w : World} {K : PySem.W.Frag} {mg : Str → Option Value} {base : Heap}
def sp_chg (C : Addr) : Sp := fun vs H Q _ => ∃ l A ks n a f o, vs = [.ref l, .str n, .str a, .ref f] ∧ KsA C H l A ks ∧ ks.length ≤ 1000 ∧ H f = some (.lst (o.map V.str)) ∧ ∀ H' q B, Fr [] H H' → KsA C H' q B (ks.map (chk n a o)) → H q = none → Q (.ref q) H'
theorem ok_changed_kinds (W : Wd P K mg) : FnOk P w K mg base CX0 3 W.f_changed_kinds W.fd_changed_kinds ["kinds", "name", "superclass", "fields"] (sp_chg W.c_Kind) := by
  refine W.F_changed_kinds.ok sc_changed_kinds (fun vs H Q E h => by obtain ⟨l, A, ks, n, a, f, o, rfl, S, hks, hf, k⟩ := h; rfl) (fun cdv A outer s H vs Q E hr h => ?_)
  obtain ⟨l, A, ks, n, a, f, o, rfl, S, hks, hf, k⟩ := h
  have hu1 := hu_of hr
  have hu64 := hu64_of hr
  refine ⟨_, (pss_cons (ps_set (i := 4) sc_changed_kinds.nd rfl (by first | exact Or.inl rfl | exact Or.inr rfl) (pe_lst pa_nil))
      (pss_cons (ps_for PassesOwn.never rfl (pi_list (pv 0)) (pg_name (i := 5) sc_changed_kinds.nd rfl (by first | exact Or.inl rfl | exact Or.inr rfl)) (pss_one (ps_if (pt_cmpR (op_eqU hu64) (pe_fld (pv 5) rfl) (pv 1) (by first | exact nomark _ | rfl)) (pss_one (ps_expr (pe_bm PySem.F.plainAttrs_list PySem.F.slot_list_append PySem.F.type_list_append mt_append (pv 4) (pa_cons (pe_make W.M_Kind (ok_Kind___init__ W) (hr.mono (by decide)) rfl W.g_Kind W.b_Kind___init__ .nil pass0 (pa_cons (pv 1) (pa_cons (pv 2) (pa_cons (pv 3) pa_nil)))) pa_nil)))) (pss_one (ps_expr (pe_bm PySem.F.plainAttrs_list PySem.F.slot_list_append PySem.F.type_list_append mt_append (pv 4) (pa_cons (pv 5) pa_nil)))))))
      (pss_one (ps_ret (pv 4))))), ?_⟩
  refine z_start (σ := [some _, some _, some _, some _, none, none]) rfl ?_
  one_sign
  refine z_newL (by show 0 ≤ sizeLine; decide) fun q H1 hq f1 e1 => ?_
  have hl1 := f1.g0 S.l
  one_sign
  refine for_list (K := K) (a := l) (xs := A.map V.ref) (fun i σ H' => ∃ (B : List Addr) (v : Option V), σ = [some (.ref l), some (.str n), some (.str a), some (.ref f), some (.ref q), v] ∧ KsA W.c_Kind H' q B ((ks.take i).map (chk n a o)) ∧ Fr [q] H1 H')
    ⟨[], none, rfl, ⟨e1, rfl, fun i a k h _ => by cases h⟩, Fr.rfl'⟩ (fun i σ H' _ e => by obtain ⟨B, v, _, _, f2⟩ := e; exact SqL.of (f2.g hl1 (nin (ne_of_none S.l hq)))) (fun i x σ H2 hx hI => ?_) (fun σ H2 hI => ?_)
  · obtain ⟨B, v, rfl, SB, f2⟩ := hI
    rw [List.getElem?_map] at hx
    obtain ⟨ad, had, rfl⟩ := Option.map_eq_some_iff.mp hx
    obtain ⟨kd, hkd⟩ : ∃ kd, ks[i]? = some kd := ⟨_, List.getElem?_eq_getElem (by rw [← S.len]; exact (List.getElem?_eq_some_iff.mp had).1)⟩
    have f12 : Fr [] H H2 := f1.in f2 hq
    have S2 := S.keep f12
    have hkA := S2.it i ad kd had hkd
    obtain ⟨dx, t, s1, s2⟩ := hkA
    have hil : i < ks.length := (List.getElem?_eq_some_iff.mp hkd).1
    have hBl : B.length = i := by rw [SB.len, List.length_map, List.length_take]; omega
    have last : ∀ (x : Addr) H3, Fr [] H2 H3 → KdAt W.c_Kind H3 x (chk n a o kd) → ∀ H4, Fr [q] H3 H4 → H4 q = some (.lst (B.map V.ref ++ [.ref x])) → KsA W.c_Kind H4 q (B ++ [x]) ((ks.take (i + 1)).map (chk n a o)) := fun x H3 f3 hxk H4 f4 h4 => by
      rw [List.take_succ, hkd, List.map_append]
      refine ⟨by rw [List.map_append]; exact h4, by rw [List.length_append, List.length_append, SB.len]; rfl, fun j y k' h1 h2 => ?_⟩
      have keep : ∀ y k', KdAt W.c_Kind H3 y k' → KdAt W.c_Kind H4 y k' := fun y k' h => h.keep f4 (fun b hb xs e => by
          rw [List.mem_singleton] at hb
          subst hb
          rw [f3.g0 SB.l] at e; cases e) (fun b hb dx fs e => by
          rw [List.mem_singleton] at hb
          subst hb
          rw [f3.g0 SB.l] at e; cases e)
      by_cases hj : j < i
      · rw [List.getElem?_append_left (by omega)] at h1
        rw [List.getElem?_append_left (by rw [← SB.len]; omega)] at h2
        exact keep _ _ ((SB.it j y k' h1 h2).keep0 f3)
      · have hj2 : j = i := by
          have := (List.getElem?_eq_some_iff.mp h1).1
          rw [List.length_append] at this
          simp only [List.length_cons, List.length_nil] at this
          omega
        subst hj2
        rw [List.getElem?_append_right (by omega), hBl, Nat.sub_self] at h1
        rw [List.getElem?_append_right (by rw [← SB.len]; omega), ← SB.len, hBl, Nat.sub_self] at h2
        cases h1
        cases h2
        exact keep _ _ hxk
    have hq2 := SB.l
    one_sign
    refine iteD (fun h => ?_) (fun h => ?_)
    · one_sign
      have hc : chk n a o kd = ⟨n, some a, o⟩ := if_pos h
      intro x dx hx hdx nx
      refine mk_kind (sup := some a) rfl (Or.inl (f12.g0 hf)) hx hdx nx fun H3 f3 K3 => ?_
      rw [← hc] at K3
      one_sign
      refine z_append (f3.g0 hq2) (by rw [List.length_map, sizeLine_eq]; omega) fun H4 f4 e4 n4 => ?_
      one_sign
      exact ⟨B ++ [x], _, rfl, last x H3 f3 K3 H4 f4 e4, (f2.trans (f3.mono (by simp))).trans f4⟩
    · one_sign
      have hc : chk n a o kd = kd := if_neg h
      refine z_append hq2 (by rw [List.length_map, sizeLine_eq]; omega) fun H4 f4 e4 n4 => ?_
      one_sign
      exact ⟨B ++ [ad], _, rfl, last ad H2 Fr.rfl' (by rw [hc]; exact ⟨dx, t, s1, s2⟩) H4 f4 e4, f2.trans f4⟩
  · obtain ⟨B, v, rfl, SB, f2⟩ := hI
    rw [List.length_map, S.len, List.take_length] at SB
    one_sign
    exact k H2 q B (f1.in f2 hq) SB hq
end
/-- a row of changes in the heap -/
structure ChsA (C : Addr) (H : Hp) (l : Addr) (B : List Addr) (cs : List Ch) : Prop where
  l : H l = some (.lst (B.map V.ref))
  len : B.length = cs.length
  it : ∀ (i : Nat) (a : Addr) (c : Ch), B[i]? = some a → cs[i]? = some c → ChAt C H a c
theorem ChAt.keepL {C : Addr} {H H' : Hp} {a q : Addr} {c : Ch} {xs : List V} (h : ChAt C H a c) (hq : H q = some (.lst xs)) (f : Fr [q] H H') : ChAt C H' a c := by
  obtain ⟨dx, t1, t2, t3, h0, h1, h2, h3⟩ := h
  have k : ∀ (t : Addr) (o : HO), H t = some o → (∀ ys, o ≠ .lst ys) → H' t = some o := fun t o e n => f.g e (nin (ne_of e hq fun z => n _ z))
  exact ⟨dx, t1, t2, t3, k _ _ h0 (by intro ys z; cases z), k _ _ h1 (by intro ys z; cases z), k _ _ h2 (by intro ys z; cases z), k _ _ h3 (by intro ys z; cases z)⟩
theorem ChAt.keep0 {C : Addr} {H H' : Hp} {a : Addr} {c : Ch} (h : ChAt C H a c) (f : Fr [] H H') : ChAt C H' a c := by
  obtain ⟨dx, t1, t2, t3, h0, h1, h2, h3⟩ := h
  exact ⟨dx, t1, t2, t3, f.g0 h0, f.g0 h1, f.g0 h2, f.g0 h3⟩
theorem ChsA.keep {C : Addr} {H H' : Hp} {l : Addr} {B : List Addr} {cs : List Ch} (h : ChsA C H l B cs) (f : Fr [] H H') : ChsA C H' l B cs := ⟨f.g0 h.l, h.len, fun i a c h1 h2 => (h.it i a c h1 h2).keep0 f⟩
theorem ChsA.snoc {C : Addr} {H H' : Hp} {q x : Addr} {B : List Addr} {cs : List Ch} {c : Ch} (h : ChsA C H q B cs) (hx : ChAt C H x c) (f : Fr [q] H H') (e : H' q = some (.lst (B.map V.ref ++ [.ref x]))) : ChsA C H' q (B ++ [x]) (cs ++ [c]) := by
  refine ⟨by rw [List.map_append]; exact e, by rw [List.length_append, List.length_append, h.len]; rfl, fun j y c' h1 h2 => ?_⟩
  by_cases hj : j < B.length
  · rw [List.getElem?_append_left hj] at h1
    rw [List.getElem?_append_left (by rw [← h.len]; exact hj)] at h2
    exact (h.it j y c' h1 h2).keepL h.l f
  · have hj2 : j = B.length := by
      have := (List.getElem?_eq_some_iff.mp h1).1
      rw [List.length_append] at this
      simp only [List.length_cons, List.length_nil] at this
      omega
    rw [List.getElem?_append_right (by omega), hj2, Nat.sub_self] at h1
    rw [List.getElem?_append_right (by rw [← h.len]; omega), ← h.len, hj2, Nat.sub_self] at h2
    cases h1
    cases h2
    exact hx.keepL h.l f

end LX
namespace LX
open PySem PySem.Spec PyProof.Rows L2 NdefX
set_option hygiene false in
local macro_rules | `(tactic| k_memK) => `(tactic| first | exact W.na_Kind_name | exact W.na_Kind_superclass | exact W.na_Kind_fields | exact W.na_Change_name | exact W.na_Change_old | exact W.na_Change_new | exact W.na_Change_origins)
set_option hygiene false in
local macro_rules | `(tactic| k_ownIn) => `(tactic| first | exact W.C_Kind | exact W.C_Change)
local macro_rules | `(tactic| none_booked) => `(tactic| first | assumption | (refine Fr.g0 (by assumption) ?_; none_booked))
local macro_rules | `(tactic| one_sign) => `(tactic| repeat (first
  | refine Stp.h ?_
  | ((with_reducible refine' z_fld1 ?k0 ?k1 ?k2 ?k3 ?_); (case k0 => none_booked); (case k1 => k_ownIn); (case k2 => k_memK); (case k3 => rfl))
  | ((with_reducible refine' z_meth1 ?k0 ?k1 ?_); (case k0 => none_booked); (case k1 => rfl))
  | ((with_reducible refine' z_bmL ?k0 ?_); (case k0 => none_booked))
  | ((with_reducible refine' z_lenL ?k0 ?_); (case k0 => none_booked))
  | ((with_reducible refine' z_lenT ?k0 ?_); (case k0 => none_booked))
  | ((with_reducible refine' z_lenD ?k0 ?_); (case k0 => none_booked))
  | ((with_reducible refine' z_truL ?k0 ?_); (case k0 => none_booked))
  | ((with_reducible refine' z_truD ?k0 ?_); (case k0 => none_booked))
  | ((with_reducible refine' z_truT ?k0 ?_); (case k0 => none_booked))
  | ((with_reducible refine' z_inDIP ?k0 ?_); (case k0 => none_booked))
  | ((with_reducible refine' z_inDIN ?k0 ?_); (case k0 => none_booked))
  | ((with_reducible refine' z_inDfP ?k0 ?_); (case k0 => none_booked))
  | ((with_reducible refine' z_inDfN ?k0 ?_); (case k0 => none_booked))
  | ((with_reducible refine' z_iList1 ?k0 ?_); (case k0 => none_booked))
  | ((with_reducible refine' z_isi0 ?k0 ?k1 ?k2 ?_); (case k0 => exact (ClsV.ty _)); (case k1 => exact (TyX.base (TyOf.lst (by none_booked)))); (case k2 => first | exact kt_list_int | exact kt_list_bool | exact kt_list_str | exact kt_list_list | exact kt_list_tuple | exact kt_list_dict))
  | ((with_reducible refine' z_rI ?k0 ?_); (case k0 => first | exact (by decide : (0 : Int) < _) | exact ⟨by decide, by decide⟩ | exact ⟨by decide, by decide, by decide⟩ | (show (0 : Int) < _; omega)))
  | ((with_reducible refine' z_mulI ?k0 ?_); (case k0 => first | exact Or.inr ⟨by decide, by decide⟩ | exact Or.inl ⟨by decide, by decide⟩ | exact Or.inl ⟨by omega, by omega⟩ | exact Or.inr ⟨by omega, by omega⟩))))
local macro_rules | `(tactic| leaf_len) => `(tactic| (simp only [wipe, List.map_cons, List.map_nil, List.set_cons_zero, List.set_cons_succ]; one_sign; refine z_ok rfl ?_; one_sign))
theorem pre_nil {R : List Rw} {n a : Str} {o : List Str} (h : preW R n a o = T []) : why1 R n a = T [] ∧ fldW [] o = T [] := by
  unfold preW at h
  by_cases e : why1 R n a ≠ T []
  · rw [if_pos e] at h
    exact absurd h e
  · rw [if_neg e] at h
    exact ⟨Classical.not_not.mp e, h⟩
theorem why_pre {R : List Rw} {n a : Str} {o : List Str} (h : preW R n a o ≠ T []) : why R n a o = preW R n a o := by
  unfold why
  by_cases e : why1 R n a ≠ T []
  · rw [if_pos e]; unfold preW; rw [if_pos e]
  · have e2 : preW R n a o = fldW [] o := by unfold preW; rw [if_neg e]
    rw [if_neg e, if_pos (by rw [← e2]; exact h), e2]
theorem why_cls {R : List Rw} {n a : Str} {o : List Str} (h : preW R n a o = T []) : why R n a o = clsW R (bh R n a o) n R := by
  obtain ⟨h1, h2⟩ := pre_nil h
  unfold why
  rw [if_neg (fun z => z h1), if_neg (fun z => z h2)]
theorem why1_nil {R : List Rw} {n a : Str} (h : why1 R n a = T []) : n ∉ KERN ∧ n ∈ nms R ∧ (a = OBJ ∨ a ∈ nms R) ∧ (a = OBJ ∨ lund R 20 a n = false) := by
  unfold why1 at h
  by_cases h1 : n ∈ KERN
  · rw [if_pos h1] at h; exact absurd h (by decide)
  rw [if_neg h1] at h
  by_cases h2 : n ∉ nms R
  · rw [if_pos h2] at h; exact absurd h (by decide)
  rw [if_neg h2] at h
  have h2 := Classical.not_not.mp h2
  by_cases h3 : a ≠ OBJ ∧ a ∉ nms R
  · rw [if_pos h3] at h; exact absurd h (by decide)
  rw [if_neg h3] at h
  by_cases h4 : a ≠ OBJ ∧ lund R 20 a n = true
  · rw [if_pos h4] at h; exact absurd h (by decide)
  refine ⟨h1, h2, ?_, ?_⟩
  · exact Classical.byContradiction fun z => h3 ⟨fun e => z (Or.inl e), fun e => z (Or.inr e)⟩
  · exact Classical.byContradiction fun z => h4 ⟨fun e => z (Or.inl e), by
      cases e : lund R 20 a n with
      | true => rfl
      | false => exact (z (Or.inr e)).elim⟩
theorem wf_bh {R : List Rw} {n a : Str} {o : List Str} {b : Nat} (hb : b ≤ 20) (g : Gd R) (wf : Wf R b) (h : why1 R n a = T []) : Wf (bh R n a o) (b + b) := by
  obtain ⟨h1, h2, h3, h4⟩ := why1_nil h
  obtain ⟨ca, hca, hcl, hna⟩ : ∃ ca, Cn R a ca ∧ ca.length ≤ b ∧ n ∉ nms ca := by
    by_cases e : a = OBJ
    · subst e
      exact ⟨[], .obj, Nat.zero_le _, fun z => by cases z⟩
    · obtain ⟨ca, hca, hcl⟩ := up_of wf h3
      refine ⟨ca, hca, hcl, fun z => ?_⟩
      have hl := h4.resolve_left e
      rw [hca.lund g n 20 (by omega), und_iff g h1 (n := n), decide_eq_true z] at hl
      cases hl
  intro r hr
  obtain ⟨x, hx, rfl⟩ := List.mem_map.mp hr
  obtain ⟨c, hc, hcl2⟩ := wf x hx
  obtain ⟨c', hc', hl'⟩ := Cn.bh (o := o) h2 hca hna hc
  have en : (if x.nm = n then (⟨n, a, o⟩ : Rw) else x).nm = x.nm := by
    by_cases e : x.nm = n
    · rw [if_pos e]; exact e.symm
    · rw [if_neg e]
  rw [en]
  exact ⟨c', hc', by omega⟩
theorem kern_up (R : List Rw) {m : Str} (h : m ∈ KERN) {n : Str} (hn : n ∉ KERN) : ∃ r, Up (gv R) (some m) r ∧ decide (n ∈ r.map Kd.nm) = false := by
  rcases List.mem_cons.mp (show m ∈ OBJ :: KERN.tail from h) with e | e
  · subst e
    exact ⟨[okd], .cons (find_obj R) .nil, decide_eq_false fun z => hn (by rw [List.map_singleton, List.mem_singleton] at z; rw [z]; exact obj_kern)⟩
  · refine ⟨[kkd m, okd], .cons (find_kkd R e) (.cons (find_obj R) .nil), decide_eq_false fun z => hn ?_⟩
    rcases List.mem_cons.mp z with z | z
    · rw [z]; exact h
    · rw [List.map_singleton, List.mem_singleton] at z
      rw [z]; exact obj_kern
theorem gv_at {R : List Rw} {i : Nat} {k : Kd} (h : (gv R)[i]? = some k) : (i < 15 ∧ k.nm ∈ KERN) ∨ (15 ≤ i ∧ ∃ r, R[i - 15]? = some r ∧ k = rkd r) := by
  have hl : (okd :: KERN.tail.map kkd).length = 15 := rfl
  unfold gv at h
  by_cases hi : i < 15
  · rw [List.getElem?_append_left (by rw [hl]; exact hi)] at h
    exact Or.inl ⟨hi, kern_nm (List.mem_of_getElem? h)⟩
  · rw [List.getElem?_append_right (by rw [hl]; omega), hl, List.getElem?_map] at h
    obtain ⟨r, hr, e⟩ := Option.map_eq_some_iff.mp h
    exact Or.inr ⟨by omega, r, hr, e.symm⟩
theorem clsW_drop {R R2 : List Rw} {n : Str} {L : List Rw} {j : Nat} {r : Rw} (h : L[j]? = some r) : clsW R R2 n (L.drop j) = if lund R 20 r.nm n = true then if (lall R2 20 r.nm).Nodup then if 32 < (lall R2 20 r.nm).length then wMANY else clsW R R2 n (L.drop (j + 1)) else wTWICE else clsW R R2 n (L.drop (j + 1)) := by
  obtain ⟨hj, e⟩ := List.getElem?_eq_some_iff.mp h
  rw [← List.getElem_cons_drop hj, e]
  rfl
theorem chs_take {R R2 : List Rw} {n : Str} {L : List Rw} {j : Nat} {r : Rw} (h : L[j]? = some r) : chs R R2 n (L.take (j + 1)) = chs R R2 n (L.take j) ++ if lund R 20 r.nm n = true then [⟨r.nm, lall R 20 r.nm, lall R2 20 r.nm⟩] else [] := by
  unfold chs
  rw [List.take_succ, h, List.filter_append, List.map_append]
  congr 1
  by_cases e : lund R 20 r.nm n = true
  · rw [if_pos e]
    show List.map _ (List.filter _ [r]) = _
    rw [List.filter_cons_of_pos (by exact e)]
    rfl
  · rw [if_neg e]
    show List.map _ (List.filter _ [r]) = _
    rw [List.filter_cons_of_neg (by exact e)]
    rfl
section
variable {P : Program} {w : World} {K : PySem.W.Frag} {mg : Str → Option Value} {base : Heap}
def sp_plan (C CC cB : Addr) : Sp := fun vs H Q E => ∃ l A R n a f o, vs = [.ref l, .str n, .str a, .ref f] ∧ KsA C H l A (gv R) ∧ Gd R ∧ R.length ≤ 100 ∧ Wf R 10 ∧ (∀ r ∈ R, r.own.length ≤ 40) ∧ H f = some (.lst (o.map V.str)) ∧ o.length ≤ 40 ∧ (∀ z ∈ o, z.length ≤ 1000) ∧
  (why R n a o ≠ T [] → ∀ H' d, Fr [] H H' → H' d = none → E (.ref cB) (some d) (L2.upd H' d (.xd [("why", .str (why R n a o))]))) ∧ (why R n a o = T [] → preW R n a o = T [] → ∀ H' q B, Fr [] H H' → ChsA CC H' q B (chs R (bh R n a o) n R) → Q (.ref q) H')
theorem Wf.mono {R : List Rw} {b c : Nat} (h : Wf R b) (hbc : b ≤ c) : Wf R c := fun r hr => let ⟨x, h1, h2⟩ := h r hr; ⟨x, h1, Nat.le_trans h2 hbc⟩
theorem ok_plan_change (W : Wd P K mg) : FnOk P w K mg base (L2N.CX P w) 4 W.f_plan_change W.fd_plan_change ["kinds", "name", "superclass", "fields"] (sp_plan W.c_Kind W.c_Change W.c_BadClass) := by
  refine okN W.F_plan_change sc_plan_change (fun vs H Q E h => by obtain ⟨l, A, R, n, a, f, o, rfl, S, g, hRl, wf, hown, hf, ho, hz, kE, kQ⟩ := h; rfl) (fun cdv A outer s H vs Q E hr h => ?_)
  obtain ⟨l, A, R, n, a, f, o, rfl, S, g, hRl, wf, hown, hf, ho, hz, kE, kQ⟩ := h
  have hu1 := hu_of hr
  have hu64 := hu64_of hr
  refine ⟨_, (pss_cons (ps_expr (pe_call (ok_check_change W) (hr.mono (by decide)) rfl W.g_check_change W.F_check_change.kp W.b_check_change .nil (L2N.passes_call (L2N.takes_of rfl rfl rfl rfl) (fun _ _ _ _ h => h)) (pa_cons (pv 0) (pa_cons (pv 1) (pa_cons (pv 2) (pa_cons (pv 3) pa_nil))))))
      (pss_cons (ps_set (i := 4) sc_plan_change.nd rfl (by first | exact Or.inl rfl | exact Or.inr rfl) (pe_call (ok_changed_kinds W) (hr.mono (by decide)) rfl W.g_changed_kinds W.F_changed_kinds.kp W.b_changed_kinds .nil pass0 (pa_cons (pv 0) (pa_cons (pv 1) (pa_cons (pv 2) (pa_cons (pv 3) pa_nil))))))
      (pss_cons (ps_set (i := 5) sc_plan_change.nd rfl (by first | exact Or.inl rfl | exact Or.inr rfl) (pe_lst pa_nil))
      (pss_cons (ps_for (passes_of rfl) rfl (pi_list (pv 0)) (pg_name (i := 6) sc_plan_change.nd rfl (by first | exact Or.inl rfl | exact Or.inr rfl)) (pss_one (ps_if (pt_truth (pe_call (ok_is_under W) (hr.mono (by decide)) rfl W.g_is_under W.F_is_under.kp W.b_is_under .nil pass0 (pa_cons (pv 0) (pa_cons (pe_fld (pv 6) rfl) (pa_cons (pv 1) pa_nil)))) (by intro _; rfl)) (pss_cons (ps_set (i := 7) sc_plan_change.nd rfl (by first | exact Or.inl rfl | exact Or.inr rfl) (pe_call (ok_all_fields W) (hr.mono (by decide)) rfl W.g_all_fields W.F_all_fields.kp W.b_all_fields .nil pass0 (pa_cons (pv 4) (pa_cons (pe_fld (pv 6) rfl) pa_nil))))
      (pss_cons (ps_if (pt_cmpR op_ltU (pe_lset rfl (by rfl) W.n_len (by rfl) W.n_set (pv 7)) (pe_callB call_lenU (by rfl) W.n_len bb_len (pa_cons (pv 7) pa_nil)) (by first | exact nomark _ | rfl)) (pss_one (L2N.ps_raise rfl (L2N.takes_of rfl rfl rfl rfl) (pmk_x W.X_BadClass W.i_BadClass (ok_BadClass___init__ W) (hr.mono (by decide)) W.b_BadClass___init__ pass0 rfl W.g_BadClass (pa_cons (pe_strT (show (PySem.Str.ofString "twice") = T [116, 119, 105, 99, 101] by decide +kernel)) pa_nil)))) pss_nil)
      (pss_cons (ps_if (pt_cmpR op_gtU (pe_callB call_lenU (by rfl) W.n_len bb_len (pa_cons (pv 7) pa_nil)) (pe_gi rfl W.g_MOST_FIELDS) (by first | exact nomark _ | rfl)) (pss_one (L2N.ps_raise rfl (L2N.takes_of rfl rfl rfl rfl) (pmk_x W.X_BadClass W.i_BadClass (ok_BadClass___init__ W) (hr.mono (by decide)) W.b_BadClass___init__ pass0 rfl W.g_BadClass (pa_cons (pe_strT (show (PySem.Str.ofString "many") = T [109, 97, 110, 121] by decide +kernel)) pa_nil)))) pss_nil)
      (pss_one (ps_expr (pe_bm PySem.F.plainAttrs_list PySem.F.slot_list_append PySem.F.type_list_append mt_append (pv 5) (pa_cons (pe_make W.M_Change (ok_Change___init__ W) (hr.mono (by decide)) rfl W.g_Change W.b_Change___init__ .nil pass0 (pa_cons (pe_fld (pv 6) rfl) (pa_cons (pe_call (ok_all_fields W) (hr.mono (by decide)) rfl W.g_all_fields W.F_all_fields.kp W.b_all_fields .nil pass0 (pa_cons (pv 0) (pa_cons (pe_fld (pv 6) rfl) pa_nil))) (pa_cons (pv 7) pa_nil)))) pa_nil))))))) pss_nil)))
      (pss_one (ps_ret (pv 5))))))), ?_⟩
  refine z_start (σ := [some _, some _, some _, some _, none, none, none, none]) rfl ?_
  one_sign
  refine ⟨l, A, R, n, a, f, o, rfl, S, g, wf.mono (by decide), hf, ho, hz, fun hp H' d f1 hd => ?_, fun hp H1 f1 => ?_⟩
  · rw [why_pre hp] at kE
    exact kE hp H' d f1 hd
  rw [why_cls hp] at kE kQ
  obtain ⟨hw1, _⟩ := pre_nil hp
  obtain ⟨hnK, hnR, _, _⟩ := why1_nil hw1
  have wf2 := wf_bh (o := o) (by decide) g wf hw1
  have g2 := g.bh n a o
  have hown2 := bh_own (n := n) (a := a) hown ho
  one_sign
  have S1 := S.keep f1
  refine ⟨l, A, gv R, n, a, f, o, rfl, S1, by rw [gv_len]; omega, f1.g0 hf, fun H2 q2 B2 f2 SB hq2 => ?_⟩
  rw [← gv_bh hnK] at SB
  one_sign
  refine z_newL (by show 0 ≤ sizeLine; decide) fun cl H3 hcl f3 e3 => ?_
  have S2 := S1.keep f2
  have hl3 := (S2.keep f3).l
  generalize hR2 : bh R n a o = R2 at *
  one_sign
  refine for_list (K := K) (a := l) (xs := A.map V.ref) (fun i σ H' => ∃ (B : List Addr) (v7 v8 : Option V), σ = [some (.ref l), some (.str n), some (.str a), some (.ref f), some (.ref q2), some (.ref cl), v7, v8] ∧ clsW R R2 n R = clsW R R2 n (R.drop (i - 15)) ∧ ChsA W.c_Change H' cl B (chs R R2 n (R.take (i - 15))) ∧ Fr [cl] H3 H')
    ⟨[], none, none, rfl, rfl, ⟨e3, rfl, fun i a k h _ => by cases h⟩, Fr.rfl'⟩ (fun i σ H' _ e => by obtain ⟨B, v7, v8, _, _, _, f4⟩ := e; exact SqL.of ((f3.in f4 hcl).g0 S2.l)) (fun i x σ H4 hx hI => ?_) (fun σ H4 hI => ?_)
  · obtain ⟨B, v7, v8, rfl, hcw, CB, f4⟩ := hI
    rw [List.getElem?_map] at hx
    obtain ⟨ad, had, rfl⟩ := Option.map_eq_some_iff.mp hx
    obtain ⟨kd, hkd⟩ : ∃ kd, (gv R)[i]? = some kd := ⟨_, List.getElem?_eq_getElem (by rw [← S.len]; exact (List.getElem?_eq_some_iff.mp had).1)⟩
    have F4 := f3.in f4 hcl
    have S4 := S2.keep F4
    have SB4 := SB.keep F4
    have hBl : B.length ≤ 1000 := by
      rw [CB.len]
      unfold chs
      rw [List.length_map]
      have h1 := List.length_filter_le (fun r => lund R 20 r.nm n) (R.take (i - 15))
      rw [List.length_take] at h1
      omega
    obtain ⟨dx, t, s1, s2⟩ := S4.it i ad kd had hkd
    one_sign
    rcases gv_at hkd with ⟨hi, hkK⟩ | ⟨hi, r, hr', rfl⟩
    · obtain ⟨up, hup, hno⟩ := kern_up R hkK hnK
      refine ⟨l, A, gv R, kd.nm, up, n, rfl, S4, hup, ?_⟩
      rw [hno]
      refine ⟨_, rfl, iteF ?_⟩
      one_sign
      exact ⟨B, _, _, rfl, by rw [hcw, show i + 1 - 15 = i - 15 by omega], by rw [show i + 1 - 15 = i - 15 by omega]; exact CB, f4⟩
    · have hrm := List.mem_of_getElem? hr'
      obtain ⟨c, hc, hcl'⟩ := wf r hrm
      have hu := hc.lund g n 20 (by omega)
      have hj : i + 1 - 15 = (i - 15) + 1 := by omega
      rw [clsW_drop hr'] at hcw
      have hct := chs_take (R := R) (R2 := R2) (n := n) hr'
      refine ⟨l, A, gv R, r.nm, _, n, rfl, S4, hc.up g, ?_⟩
      rw [← hu]
      refine ⟨_, rfl, ?_⟩
      refine iteB (fun hL => ?_) (fun hL => ?_)
      · rw [if_pos hL] at hcw hct
        obtain ⟨c2, hc2, hcl2⟩ : ∃ c, Cn R2 r.nm c ∧ c.length ≤ 10 + 10 := by
          obtain ⟨r2, hr2, e2⟩ : ∃ r2 ∈ R2, r2.nm = r.nm := by
            have : r.nm ∈ nms R2 := by rw [← hR2, bh_nms]; exact List.mem_map_of_mem hrm
            obtain ⟨r2, h1, h2⟩ := List.mem_map.mp this
            exact ⟨r2, h1, h2⟩
          have := wf2 r2 hr2
          rw [e2] at this
          exact this
        have e2 := hc2.lall g2 20 (by omega)
        have l2 := cfl_len (c := c2) (b := 40) fun x hx => hown2 x (hc2.sub x hx)
        have e1 := hc.lall g 20 (by omega)
        have l1 := cfl_len (c := c) (b := 40) fun x hx => hown x (hc.sub x hx)
        have b2 : (cfl c2).length ≤ 1000 := by omega
        have b1 : (cfl c).length ≤ 1000 := by omega
        generalize lall R2 20 r.nm = L2 at hcw hct e2
        generalize lall R 20 r.nm = L1 at hct e1
        subst e2 e1
        one_sign
        refine ⟨q2, B2, gv R2, r.nm, _, rfl, SB4, hc2.up g2, by rw [cfl_flK]; exact b2, fun H5 q5 f5 hq5 e5 => ?_⟩
        rw [cfl_flK] at e5
        one_sign
        refine z_lset1 e5 b2 ?_
        one_sign
        rw [List.length_map]
        have hdn := dcn_lt (cfl c2)
        refine iteD (fun h => ?_) (fun h => ?_)
        · one_sign
          have hnd : ¬ (cfl c2).Nodup := hdn.mp (by omega)
          rw [if_neg hnd] at hcw
          exact exc1_mk True.intro fun d hd => by
            rw [hcw] at kE
            exact kE (by decide) H5 d (((f1.trans f2).trans F4).trans f5) hd
        have hnd : (cfl c2).Nodup := Classical.byContradiction fun z => h (by have := hdn.mpr z; omega)
        rw [if_pos hnd] at hcw
        one_sign
        rw [List.length_map]
        refine iteD (fun h2 => ?_) (fun h2 => ?_)
        · one_sign
          rw [if_pos (by omega)] at hcw
          exact exc1_mk True.intro fun d hd => by
            rw [hcw] at kE
            exact kE (by decide) H5 d (((f1.trans f2).trans F4).trans f5) hd
        rw [if_neg (by omega)] at hcw
        have CB5 := CB.keep f5
        have hcl5 := CB5.l
        have s15 := f5.g0 s1
        one_sign
        refine ⟨l, A, gv R, r.nm, _, rfl, S4.keep f5, hc.up g, by rw [cfl_flK]; exact b1, fun H6 q6 f6 hq6 e6 => ?_⟩
        rw [cfl_flK] at e6
        one_sign
        intro x dx2 hx0 hdx nx
        refine mk_change e6 (f6.g0 e5) b2 hx0 hdx nx fun H7 f7 C7 => ?_
        have f57 := f6.trans f7
        have CB7 := CB5.keep f57
        one_sign
        refine z_append CB7.l (by rw [List.length_map, sizeLine_eq]; omega) fun H8 f8 e8 n8 => ?_
        one_sign
        refine ⟨B ++ [x], _, _, rfl, by rw [hcw, hj], by rw [hj, hct]; exact CB7.snoc C7 f8 e8, ((f4.trans (f5.mono (by simp))).trans (f57.mono (by simp))).trans f8⟩
      · rw [if_neg hL] at hcw hct
        rw [List.append_nil] at hct
        one_sign
        exact ⟨B, _, _, rfl, by rw [hcw, hj], by rw [hj, hct]; exact CB, f4⟩
  · obtain ⟨B, v7, v8, rfl, hcw, CB, f4⟩ := hI
    have hlen : (List.map V.ref A).length - 15 = R.length := by rw [List.length_map, S.len, gv_len]; omega
    rw [hlen, List.drop_length] at hcw
    rw [hlen, List.take_length] at CB
    one_sign
    exact kQ (by rw [hcw]; rfl) hp H4 cl B ((f1.trans f2).trans (f3.in f4 hcl)) CB
end

end LX
namespace LX
open PySem PySem.Spec PyProof.Rows L2 NdefX
set_option hygiene false in
local macro_rules | `(tactic| k_memK) => `(tactic| first | exact W.na_Kind_name | exact W.na_Kind_superclass | exact W.na_Kind_fields | exact W.na_Change_name | exact W.na_Change_old | exact W.na_Change_new | exact W.na_Change_origins)
set_option hygiene false in
local macro_rules | `(tactic| k_ownIn) => `(tactic| first | exact W.C_Kind | exact W.C_Change)
local macro_rules | `(tactic| none_booked) => `(tactic| first | assumption | (refine Fr.g0 (by assumption) ?_; none_booked))
local macro_rules | `(tactic| one_sign) => `(tactic| repeat (first
  | refine Stp.h ?_
  | ((with_reducible refine' z_fld1 ?k0 ?k1 ?k2 ?k3 ?_); (case k0 => none_booked); (case k1 => k_ownIn); (case k2 => k_memK); (case k3 => rfl))
  | ((with_reducible refine' z_meth1 ?k0 ?k1 ?_); (case k0 => none_booked); (case k1 => rfl))
  | ((with_reducible refine' z_bmL ?k0 ?_); (case k0 => none_booked))
  | ((with_reducible refine' z_lenL ?k0 ?_); (case k0 => none_booked))
  | ((with_reducible refine' z_lenT ?k0 ?_); (case k0 => none_booked))
  | ((with_reducible refine' z_lenD ?k0 ?_); (case k0 => none_booked))
  | ((with_reducible refine' z_truL ?k0 ?_); (case k0 => none_booked))
  | ((with_reducible refine' z_truD ?k0 ?_); (case k0 => none_booked))
  | ((with_reducible refine' z_truT ?k0 ?_); (case k0 => none_booked))
  | ((with_reducible refine' z_inDIP ?k0 ?_); (case k0 => none_booked))
  | ((with_reducible refine' z_inDIN ?k0 ?_); (case k0 => none_booked))
  | ((with_reducible refine' z_inDfP ?k0 ?_); (case k0 => none_booked))
  | ((with_reducible refine' z_inDfN ?k0 ?_); (case k0 => none_booked))
  | ((with_reducible refine' z_iList1 ?k0 ?_); (case k0 => none_booked))
  | ((with_reducible refine' z_isi0 ?k0 ?k1 ?k2 ?_); (case k0 => exact (ClsV.ty _)); (case k1 => exact (TyX.base (TyOf.lst (by none_booked)))); (case k2 => first | exact kt_list_int | exact kt_list_bool | exact kt_list_str | exact kt_list_list | exact kt_list_tuple | exact kt_list_dict))
  | ((with_reducible refine' z_rI ?k0 ?_); (case k0 => first | exact (by decide : (0 : Int) < _) | exact ⟨by decide, by decide⟩ | exact ⟨by decide, by decide, by decide⟩ | (show (0 : Int) < _; omega)))
  | ((with_reducible refine' z_mulI ?k0 ?_); (case k0 => first | exact Or.inr ⟨by decide, by decide⟩ | exact Or.inl ⟨by decide, by decide⟩ | exact Or.inl ⟨by omega, by omega⟩ | exact Or.inr ⟨by omega, by omega⟩))))
local macro_rules | `(tactic| leaf_len) => `(tactic| (simp only [wipe, List.map_cons, List.map_nil, List.set_cons_zero, List.set_cons_succ]; one_sign; refine z_ok rfl ?_; one_sign))
theorem LkA.len' {H : Hp} {l : Addr} {A : List Addr} {R : List Rw} (h : LkA H l A R) {i : Nat} {a : Addr} (ha : A[i]? = some a) : ∃ r, R[i]? = some r := ⟨_, List.getElem?_eq_getElem (by rw [← h.len]; exact (List.getElem?_eq_some_iff.mp ha).1)⟩
theorem nd_take {o : List Str} {i : Nat} {z : Str} (h : o[i]? = some z) (hn : (o.take i).Nodup) : (z ∈ o.take i → ¬ o.Nodup) ∧ (z ∉ o.take i → (o.take (i + 1)).Nodup) := by
  have e : o.take (i + 1) = o.take i ++ [z] := by rw [List.take_succ, h]; rfl
  constructor
  · intro hm hnd
    have h1 : (o.take (i + 1)).Nodup := hnd.sublist (List.take_sublist _ _)
    rw [e, nodup_snoc] at h1
    exact h1.2 hm
  · intro hm
    rw [e, nodup_snoc]
    exact ⟨hn, hm⟩
section
variable {P : Program} {w : World} {K : PySem.W.Frag} {mg : Str → Option Value} {base : Heap}
def sp_lbh : Sp := fun vs H Q _ => ∃ l A R n a f o, vs = [.ref l, .str n, .str a, .ref f] ∧ LkA H l A R ∧ R.length ≤ 100 ∧ H f = some (.lst (o.map V.str)) ∧ ∀ H' q B, Fr [] H H' → H q = none → LkA H' q B (bh R n a o) → Q (.ref q) H'
theorem ok__law_behind (W : Wd P K mg) : FnOk P w K mg base CX0 1 W.f__law_behind W.fd__law_behind ["_law_kinds_here", "_law_name", "_law_above", "_law_own"] sp_lbh := by
  refine W.F__law_behind.ok sc__law_behind (fun vs H Q E h => by obtain ⟨l, A, R, n, a, f, o, rfl, S, hR, hf, k⟩ := h; rfl) (fun cdv A outer s H vs Q E hr h => ?_)
  obtain ⟨l, A, R, n, a, f, o, rfl, S, hR, hf, k⟩ := h
  have hu1 := hu_of hr
  have hu64 := hu64_of hr
  refine ⟨_, (pss_cons (ps_set (i := 4) sc__law_behind.nd rfl (by first | exact Or.inl rfl | exact Or.inr rfl) (pe_lst pa_nil))
      (pss_cons (ps_for PassesOwn.never rfl (pi_list (pv 0)) (pg_name (i := 5) sc__law_behind.nd rfl (by first | exact Or.inl rfl | exact Or.inr rfl)) (pss_one (ps_if (pt_cmpR (op_eqU hu64) (pe_ix (ix_U hu1) (pv 5) pe_int (fun _ _ => rfl)) (pv 1) (by first | exact nomark _ | rfl)) (pss_one (ps_expr (pe_bm PySem.F.plainAttrs_list PySem.F.slot_list_append PySem.F.type_list_append mt_append (pv 4) (pa_cons (pe_tup (pa_cons (pv 1) (pa_cons (pv 2) (pa_cons (pv 3) pa_nil)))) pa_nil)))) (pss_one (ps_expr (pe_bm PySem.F.plainAttrs_list PySem.F.slot_list_append PySem.F.type_list_append mt_append (pv 4) (pa_cons (pv 5) pa_nil)))))))
      (pss_one (ps_ret (pv 4))))), ?_⟩
  refine z_start (σ := [some _, some _, some _, some _, none, none]) rfl ?_
  one_sign
  refine z_newL (by show 0 ≤ sizeLine; decide) fun q H1 hq f1 e1 => ?_
  have hl1 := f1.g0 S.l
  one_sign
  refine for_list (K := K) (a := l) (xs := A.map V.ref) (fun i σ H' => ∃ (B : List Addr) (v : Option V), σ = [some (.ref l), some (.str n), some (.str a), some (.ref f), some (.ref q), v] ∧ H' q = some (.lst (B.map V.ref)) ∧ B.length = i ∧ i ≤ R.length ∧
      (∀ (j : Nat) (y : Addr) (r : Rw), B[j]? = some y → (bh R n a o)[j]? = some r → ∃ oo, H' y = some (.tup [.str r.nm, .str r.ab, .ref oo]) ∧ H oo = some (.lst (r.own.map V.str))) ∧ Fr [q] H1 H')
    ⟨[], none, rfl, e1, rfl, Nat.zero_le _, (fun j y r h _ => by cases h), Fr.rfl'⟩ (fun i σ H' _ e => by obtain ⟨B, v, _, _, _, _, _, f2⟩ := e; exact SqL.of ((f1.in f2 hq).g0 S.l)) (fun i x σ H2 hx hI => ?_) (fun σ H2 hI => ?_)
  · obtain ⟨B, v, rfl, q2, hBl, _, hit, f2⟩ := hI
    rw [List.getElem?_map] at hx
    obtain ⟨ad, had, rfl⟩ := Option.map_eq_some_iff.mp hx
    obtain ⟨r, hr'⟩ := S.len' had
    have F := f1.in f2 hq
    obtain ⟨oo, a1, a2⟩ := S.it i ad r had hr'
    have b1 := F.g0 a1
    have hil : i < R.length := (List.getElem?_eq_some_iff.mp hr').1
    have hbi : (bh R n a o)[i]? = some (if r.nm = n then (⟨n, a, o⟩ : Rw) else r) := by unfold bh; rw [List.getElem?_map, hr']; rfl
    have last : ∀ (x : Addr) (y : Rw) H3 (oo : Addr), (if r.nm = n then (⟨n, a, o⟩ : Rw) else r) = y → Fr [] H2 H3 → H3 x = some (.tup [.str y.nm, .str y.ab, .ref oo]) → H oo = some (.lst (y.own.map V.str)) → ∀ H4, Fr [q] H3 H4 → (∀ (j : Nat) (y : Addr) (r : Rw), (B ++ [x])[j]? = some y → (bh R n a o)[j]? = some r → ∃ oo, H4 y = some (.tup [.str r.nm, .str r.ab, .ref oo]) ∧ H oo = some (.lst (r.own.map V.str))) := fun x y H3 oo ey f3 h1 h2 H4 f4 j z r' g1 g2 => by
      have q3 := f3.g0 q2
      have kp : ∀ (x : Addr) (ys : List V), H3 x = some (.tup ys) → H4 x = some (.tup ys) := fun x ys h => f4.g h (nin (ne_of h q3 (by intro z; cases z)))
      by_cases hj : j < i
      · rw [List.getElem?_append_left (by omega)] at g1
        obtain ⟨o2, z1, z2⟩ := hit j z r' g1 g2
        exact ⟨o2, kp _ _ (f3.g0 z1), z2⟩
      · have hj2 : j = i := by
          have := (List.getElem?_eq_some_iff.mp g1).1
          rw [List.length_append] at this
          simp only [List.length_cons, List.length_nil] at this
          omega
        subst hj2
        rw [List.getElem?_append_right (by omega), hBl, Nat.sub_self] at g1
        rw [hbi] at g2
        cases g1
        cases g2
        subst ey
        exact ⟨oo, kp _ _ h1, h2⟩
    one_sign
    refine z_ixT b1 (atI_nat (j := 0) rfl) ?_
    one_sign
    refine iteD (fun h => ?_) (fun h => ?_)
    · one_sign
      refine z_newL (by show 3 ≤ sizeLine; decide) fun x H3 hx3 f3 e3 => ?_
      one_sign
      refine z_append (f3.g0 q2) (by rw [List.length_map, sizeLine_eq]; omega) fun H4 f4 e4 n4 => ?_
      one_sign
      exact ⟨B ++ [x], _, rfl, by rw [List.map_append]; exact e4, by rw [List.length_append, hBl]; rfl, hil, last x ⟨n, a, o⟩ H3 f (if_pos h) f3 e3 hf H4 f4, (f2.trans (f3.mono (by simp))).trans f4⟩
    · one_sign
      refine z_append q2 (by rw [List.length_map, sizeLine_eq]; omega) fun H4 f4 e4 n4 => ?_
      one_sign
      exact ⟨B ++ [ad], _, rfl, by rw [List.map_append]; exact e4, by rw [List.length_append, hBl]; rfl, hil, last ad r H2 oo (if_neg h) Fr.rfl' b1 a2 H4 f4, f2.trans f4⟩
  · obtain ⟨B, v, rfl, q2, hBl, _, hit, f2⟩ := hI
    have F := f1.in f2 hq
    one_sign
    refine k H2 q B F hq ⟨q2, by rw [hBl, List.length_map, S.len]; unfold bh; rw [List.length_map], fun j y r h1 h2 => ?_⟩
    obtain ⟨oo, z1, z2⟩ := hit j y r h1 h2
    exact ⟨oo, z1, F.g0 z2⟩
def sp_why : Sp := fun vs H Q _ => ∃ l A R n a f o, vs = [.ref l, .str n, .str a, .ref f] ∧ LkA H l A R ∧ R.length ≤ 100 ∧ (∀ r ∈ R, r.own.length ≤ 40) ∧ H f = some (.lst (o.map V.str)) ∧ o.length ≤ 40 ∧ (∀ z ∈ o, z.length ≤ 1000) ∧ ∀ H', Fr [] H H' → Q (.str (why R n a o)) H'
theorem ok__law_why (W : Wd P K mg) : FnOk P w K mg base CX0 2 W.f__law_why W.fd__law_why ["_law_kinds_here", "_law_name", "_law_above", "_law_own"] sp_why := by
  refine W.F__law_why.ok sc__law_why (fun vs H Q E h => by obtain ⟨l, A, R, n, a, f, o, rfl, S, hR, hown, hf, ho, hz, k⟩ := h; rfl) (fun cdv A outer s H vs Q E hr h => ?_)
  obtain ⟨l, A, R, n, a, f, o, rfl, S, hR, hown, hf, ho, hz, k⟩ := h
  have hu1 := hu_of hr
  have hu64 := hu64_of hr
  refine ⟨_, (pss_cons (ps_setLc (i := 4) (own := [("_law_one", 5)]) (g := gName 5) (tt := tYes) rfl sc__law_why.nd rfl rfl (sw_true rfl rfl rfl (by decide +kernel)) (pi_list (pv 0)) (blkOk_by (N := N__law_why) (sc := defScope s__law_why) (by decide +kernel)) (fun _ _ _ _ _ => (pg_name (i := 5) sc__law_why.nd rfl (by first | exact Or.inl rfl | exact Or.inr rfl))) (fun _ _ _ _ _ => pts_nil) (fun _ _ _ _ _ => (pe_ix (ix_UK (K := K) rfl (by exact hu1)) (pv 5) pe_int (fun _ _ => rfl))))
      (pss_cons (ps_if (pt_cmpR (op_inU hu1) (pv 1) (pe_gr rfl W.g_KERNEL) (by first | exact nomark _ | rfl)) (pss_one (ps_ret (pe_strT (show (PySem.Str.ofString "kernel") = T [107, 101, 114, 110, 101, 108] by decide +kernel)))) pss_nil)
      (pss_cons (ps_if (pt_cmpR (op_ninU hu1) (pv 1) (pv 4) (by first | exact nomark _ | rfl)) (pss_one (ps_ret (pe_strT (show (PySem.Str.ofString "name") = T [110, 97, 109, 101] by decide +kernel)))) pss_nil)
      (Evl.pss_cut (ps_if (PW.pt (pw_and (pt_cmpR (op_neU hu64) (pv 2) (pe_strT (show (PySem.Str.ofString "Object") = T [79, 98, 106, 101, 99, 116] by decide +kernel)) (by first | exact nomark _ | rfl)) (pw_and1 (pt_cmpR (op_ninU hu1) (pv 2) (pv 4) (by first | exact nomark _ | rfl))))) (pss_one (ps_ret (pe_strT (show (PySem.Str.ofString "super") = T [115, 117, 112, 101, 114] by decide +kernel)))) pss_nil)
      (Evl.pss_cut (ps_if (PW.pt (pw_and (pt_cmpR (op_neU hu64) (pv 2) (pe_strT (show (PySem.Str.ofString "Object") = T [79, 98, 106, 101, 99, 116] by decide +kernel)) (by first | exact nomark _ | rfl)) (pw_and1 (pt_truth (pe_call (ok__law_under W) (hr.mono (by decide)) rfl W.g__law_under W.F__law_under.kp W.b__law_under .nil pass0 (pa_cons (pv 0) (pa_cons (pv 2) (pa_cons (pv 1) pa_nil)))) (by intro _; rfl))))) (pss_one (ps_ret (pe_strT (show (PySem.Str.ofString "ring") = T [114, 105, 110, 103] by decide +kernel)))) pss_nil)
      (pss_cons (ps_for PassesOwn.never rfl (pi_range1 (by rfl) W.n_range (pa_cons (pe_callB call_lenU (by rfl) W.n_len bb_len (pa_cons (pv 3) pa_nil)) pa_nil)) (pg_name (i := 6) sc__law_why.nd rfl (by first | exact Or.inl rfl | exact Or.inr rfl)) (pss_cons (ps_if (pt_not (pt_truth (pe_call (ok__law_good W) (hr.mono (by decide)) rfl W.g__law_good W.F__law_good.kp W.b__law_good .nil pass0 (pa_cons (pe_ix (ix_U hu1) (pv 3) (pv 6) (fun _ _ => rfl)) pa_nil)) (by intro _; rfl))) (pss_one (ps_ret (pe_strT (show (PySem.Str.ofString "field") = T [102, 105, 101, 108, 100] by decide +kernel)))) pss_nil)
      (pss_one (ps_if (pt_cmpR (op_inU hu1) (pe_ix (ix_U hu1) (pv 3) (pv 6) (fun _ _ => rfl)) (pe_slice sl_U (pv 3) po_none (po_some (pv 6))) (by first | exact nomark _ | rfl)) (pss_one (ps_ret (pe_strT (show (PySem.Str.ofString "twice") = T [116, 119, 105, 99, 101] by decide +kernel)))) pss_nil))))
      (pss_cons (ps_set (i := 7) sc__law_why.nd rfl (by first | exact Or.inl rfl | exact Or.inr rfl) (pe_call (ok__law_behind W) (hr.mono (by decide)) rfl W.g__law_behind W.F__law_behind.kp W.b__law_behind .nil pass0 (pa_cons (pv 0) (pa_cons (pv 1) (pa_cons (pv 2) (pa_cons (pv 3) pa_nil))))))
      (pss_cons (ps_for PassesOwn.never rfl (pi_list (pv 0)) (pg_name (i := 5) sc__law_why.nd rfl (by first | exact Or.inl rfl | exact Or.inr rfl)) (pss_one (ps_if (pt_truth (pe_call (ok__law_under W) (hr.mono (by decide)) rfl W.g__law_under W.F__law_under.kp W.b__law_under .nil pass0 (pa_cons (pv 0) (pa_cons (pe_ix (ix_U hu1) (pv 5) pe_int (fun _ _ => rfl)) (pa_cons (pv 1) pa_nil)))) (by intro _; rfl)) (pss_cons (ps_set (i := 8) sc__law_why.nd rfl (by first | exact Or.inl rfl | exact Or.inr rfl) (pe_call (ok__law_all W) (hr.mono (by decide)) rfl W.g__law_all W.F__law_all.kp W.b__law_all .nil pass0 (pa_cons (pv 7) (pa_cons (pe_ix (ix_U hu1) (pv 5) pe_int (fun _ _ => rfl)) pa_nil))))
      (pss_cons (ps_for PassesOwn.never rfl (pi_range1 (by rfl) W.n_range (pa_cons (pe_callB call_lenU (by rfl) W.n_len bb_len (pa_cons (pv 8) pa_nil)) pa_nil)) (pg_name (i := 6) sc__law_why.nd rfl (by first | exact Or.inl rfl | exact Or.inr rfl)) (pss_one (ps_if (pt_cmpR (op_inU hu1) (pe_ix (ix_U hu1) (pv 8) (pv 6) (fun _ _ => rfl)) (pe_slice sl_U (pv 8) po_none (po_some (pv 6))) (by first | exact nomark _ | rfl)) (pss_one (ps_ret (pe_strT (show (PySem.Str.ofString "twice") = T [116, 119, 105, 99, 101] by decide +kernel)))) pss_nil)))
      (pss_one (ps_if (pt_cmpR op_gtU (pe_callB call_lenU (by rfl) W.n_len bb_len (pa_cons (pv 8) pa_nil)) pe_int (by first | exact nomark _ | rfl)) (pss_one (ps_ret (pe_strT (show (PySem.Str.ofString "many") = T [109, 97, 110, 121] by decide +kernel)))) pss_nil)))) pss_nil)))
      (pss_one (ps_ret (pe_strT (show (PySem.Str.ofString "") = T [] by decide +kernel)))))))))))), ?_⟩
  refine z_start (σ := [some _, some _, some _, some _, none, none, none, none, none]) rfl ?_
  one_sign
  have hl := S.l
  one_sign
  refine z_lcL hl (fun i xs _ => xs = (nms (R.take i)).map V.str) (fun _ _ _ _ => rfl) (fun Rr i x xs H' hRr hi hil hxl hP hX f1 => ?_) (fun q xs H1 hq hP hxl hX f1 => ?_)
  · rw [List.getElem?_map] at hi
    obtain ⟨ad, had, rfl⟩ := Option.map_eq_some_iff.mp hi
    obtain ⟨r, hr'⟩ := S.len' had
    obtain ⟨oo, a1, a2⟩ := S.it i ad r had hr'
    have b1 := f1.g0 a1
    leaf_len
    refine z_ixT b1 (atI_nat (j := 0) rfl) ?_
    have hil2 := (List.getElem?_eq_some_iff.mp hr').1
    exact z_lcY hRr hX f1 hxl (by rw [sizeLine_eq]; omega) fun H6 _ _ _ => by
      unfold nms at *
      rw [hP, List.take_succ, hr']; simp
  rw [List.length_map, S.len, List.take_length] at hP
  subst hP
  have KK : ∀ H' : Hp, SqT K H' W.a_KERNEL (KERN.map V.str) := fun H' => W.tp_KERNEL H'
  have done1 : ∀ {z : Str}, why1 R n a = z → z ≠ T [] → ∀ H', Fr [] H H' → Q (.str z) H' := fun {z} e hn H' f => by
    have e2 : why R n a o = z := by unfold why; rw [e, if_pos hn]
    rw [e2] at k
    exact k H' f
  one_sign
  refine z_inK (KK _) KERN_V ?_
  rw [inVS]
  one_sign
  refine iteD (fun hK => ?_) (fun hK => ?_)
  · one_sign
    exact done1 (z := wKERNEL) (by unfold why1; rw [if_pos hK]) (by decide) H1 f1
  one_sign
  refine z_inLN hX rfl (flatS _) ?_
  rw [inVS]
  one_sign
  refine iteND (fun hn => ?_) (fun hn => ?_)
  · one_sign
    exact done1 (z := wNAME) (by unfold why1; rw [if_neg hK, if_pos hn]) (by decide) H1 f1
  one_sign
  refine ⟨fun σ' H' => σ' = [some (.ref l), some (.str n), some (.str a), some (.ref f), some (.ref q), none, none, none, none] ∧ H' = H1 ∧ (a = OBJ ∨ a ∈ nms R), ?_, fun σ' H' hM => ?_⟩
  · one_sign
    refine iteND (fun ha => ?_) (fun ha => ?_)
    · one_sign
      refine z_inLN hX rfl (flatS _) ?_
      rw [inVS]
      one_sign
      refine iteND (fun ha2 => ?_) (fun ha2 => ?_)
      · one_sign
        exact done1 (z := wSUPER) (by unfold why1; rw [if_neg hK, if_neg (fun z => z hn), if_pos ⟨ha, ha2⟩]) (by decide) H1 f1
      · one_sign
        exact ⟨rfl, rfl, Or.inr ha2⟩
    · one_sign
      exact ⟨rfl, rfl, Or.inl ha⟩
  obtain ⟨rfl, rfl, ha'⟩ := hM
  have ring : why1 R n a = if a ≠ OBJ ∧ lund R 20 a n = true then wRING else T [] := by
    unfold why1
    rw [if_neg hK, if_neg (fun z => z hn), if_neg (fun z => ha'.elim z.1 z.2)]
  have S1 := S.keep f1
  refine ⟨fun σ' H2 => σ' = [some (.ref l), some (.str n), some (.str a), some (.ref f), some (.ref q), none, none, none, none] ∧ H2 = H' ∧ why1 R n a = T [], ?_, fun σ' H' hM => ?_⟩
  · one_sign
    refine iteND (fun ha => ?_) (fun ha => ?_)
    · one_sign
      refine ⟨l, A, R, a, n, rfl, S1, ?_⟩
      refine ⟨_, rfl, ?_⟩
      refine iteB (fun h => ?_) (fun h => ?_)
      · one_sign
        exact done1 (z := wRING) (by rw [ring, if_pos ⟨ha, h⟩]) (by decide) _ f1
      · one_sign
        exact ⟨rfl, rfl, by rw [ring, if_neg fun z => h z.2]⟩
    · one_sign
      exact ⟨rfl, rfl, by rw [ring, if_neg fun z => z.1 ha]⟩
  obtain ⟨rfl, rfl, hw⟩ := hM
  have hw2 : ∀ z, fldW [] o = z → z ≠ T [] → ∀ H', Fr [] H H' → Q (.str z) H' := fun z e hne H' f => by
    have e2 : why R n a o = z := by unfold why; rw [hw, if_neg (fun z => z rfl), e, if_pos hne]
    rw [e2] at k
    exact k H' f
  have hf1 := f1.g0 hf
  one_sign
  rw [List.length_map]
  refine z_rng1 o.length rfl (by omega) ?_
  refine for_range (lo := 0) (n := o.length) (fun i σ H2 => ∃ v : Option V, σ = [some (.ref l), some (.str n), some (.str a), some (.ref f), some (.ref q), none, v, none, none] ∧ fldW [] o = fldW (o.take i) (o.drop i) ∧ Fr [] H' H2)
    ⟨_, rfl, rfl, Fr.rfl'⟩ (fun i σ H2 hi hI => ?_) (fun σ H2 hI => ?_)
  · obtain ⟨v, rfl, hfl, f2⟩ := hI
    obtain ⟨z, hz'⟩ : ∃ z, o[i]? = some z := ⟨_, List.getElem?_eq_getElem hi⟩
    have hzv : atI (o.map V.str) (0 + (i : Int)) = some (V.str z) := by rw [Int.zero_add]; exact atI_nat (by rw [List.getElem?_map, hz']; rfl)
    rw [fldW_drop hz'] at hfl
    have hf2 := f2.g0 hf1
    one_sign
    refine z_ixL hf2 hzv ?_
    one_sign
    refine ⟨z.cps.toList, rfl, hz z (List.mem_of_getElem? hz'), fun H3 f3 => ?_⟩
    refine ⟨_, rfl, ?_⟩
    have hf3 := f3.g0 hf2
    cases hgd : gdN z.cps.toList with
    | false =>
      rw [if_neg (by unfold gdS; rw [hgd]; simp)] at hfl
      refine iteT ?_
      one_sign
      exact hw2 wFIELD hfl (by decide) _ ((f1.trans f2).trans f3)
    | true =>
      rw [if_pos (by unfold gdS; rw [hgd])] at hfl
      refine iteF ?_
      one_sign
      refine z_ixL hf3 hzv ?_
      one_sign
      rw [Int.zero_add]
      refine z_slL hf3 fun q4 H4 hq4 f4 q4' => ?_
      rw [cut_to _ _ (by rw [List.length_map]; omega), ← List.map_take] at q4'
      refine z_inLP q4' rfl (flatS _) ?_
      rw [inVS]
      one_sign
      refine iteD (fun hm => ?_) (fun hm => ?_)
      · one_sign
        rw [if_pos hm] at hfl
        exact hw2 wTWICE hfl (by decide) _ (((f1.trans f2).trans f3).trans f4)
      · one_sign
        rw [if_neg hm] at hfl
        exact ⟨_, rfl, hfl, (f2.trans f3).trans f4⟩
  · obtain ⟨v, rfl, hfl, f2⟩ := hI
    rw [List.take_length, List.drop_length] at hfl
    have hw3 : why R n a o = clsW R (bh R n a o) n R := by unfold why; rw [hw, if_neg (fun z => z rfl), hfl, if_neg (fun z => z rfl)]
    rw [hw3] at k
    have F2 := f1.trans f2
    one_sign
    refine ⟨l, A, R, n, a, f, o, rfl, S.keep F2, hR, F2.g0 hf, fun H3 q3 B3 f3 hq3 SB => ?_⟩
    have F3 := F2.trans f3
    have S3 := S.keep F3
    have hl3 := S3.l
    have hown2 := bh_own (n := n) (a := a) hown ho
    generalize bh R n a o = R2 at *
    one_sign
    refine for_list (K := K) (a := l) (xs := A.map V.ref) (fun i σ H' => ∃ (v5 v6 v8 : Option V), σ = [some (.ref l), some (.str n), some (.str a), some (.ref f), some (.ref q), v5, v6, some (.ref q3), v8] ∧ clsW R R2 n R = clsW R R2 n (R.drop i) ∧ Fr [] H3 H')
      ⟨_, _, _, rfl, rfl, Fr.rfl'⟩ (fun i σ H' _ e => by obtain ⟨_, _, _, _, _, f4⟩ := e; exact SqL.of (f4.g0 hl3)) (fun i x σ H4 hx hI => ?_) (fun σ H4 hI => ?_)
    · obtain ⟨v5, v6, v8, rfl, hcw, f4⟩ := hI
      rw [List.getElem?_map] at hx
      obtain ⟨ad, had, rfl⟩ := Option.map_eq_some_iff.mp hx
      obtain ⟨r, hr'⟩ := S.len' had
      have S4 := S3.keep f4
      obtain ⟨oo, a1, a2⟩ := S4.it i ad r had hr'
      rw [clsW_drop hr'] at hcw
      one_sign
      refine z_ixT a1 (atI_nat (j := 0) rfl) ?_
      one_sign
      refine ⟨l, A, R, r.nm, n, rfl, S4, ?_⟩
      refine ⟨_, rfl, ?_⟩
      refine iteB (fun hL => ?_) (fun hL => ?_)
      · rw [if_pos hL] at hcw
        one_sign
        refine z_ixT a1 (atI_nat (j := 0) rfl) ?_
        one_sign
        refine ⟨q3, B3, R2, r.nm, rfl, SB.keep f4, hown2, fun H5 q5 f5 hq5 e5 => ?_⟩
        have l2 := lall_len hown2 20 r.nm
        generalize lall R2 20 r.nm = L2 at hcw e5 l2
        one_sign
        rw [List.length_map]
        refine z_rng1 L2.length rfl (by omega) ?_
        refine for_range (lo := 0) (n := L2.length) (fun i σ H2 => ∃ v : Option V, σ = [some (.ref l), some (.str n), some (.str a), some (.ref f), some (.ref q), some (.ref ad), v, some (.ref q3), some (.ref q5)] ∧ (L2.take i).Nodup ∧ Fr [] H5 H2)
          ⟨_, rfl, List.nodup_nil, Fr.rfl'⟩ (fun i2 σ H6 hi2 hJ => ?_) (fun σ H6 hJ => ?_)
        · obtain ⟨v, rfl, hnd, f6⟩ := hJ
          obtain ⟨z, hz'⟩ : ∃ z, L2[i2]? = some z := ⟨_, List.getElem?_eq_getElem hi2⟩
          have hzv : atI (L2.map V.str) (0 + (i2 : Int)) = some (V.str z) := by rw [Int.zero_add]; exact atI_nat (by rw [List.getElem?_map, hz']; rfl)
          have h6 := f6.g0 e5
          obtain ⟨nd1, nd2⟩ := nd_take hz' hnd
          one_sign
          refine z_ixL h6 hzv ?_
          one_sign
          rw [Int.zero_add]
          refine z_slL h6 fun q7 H7 hq7 f7 e7 => ?_
          rw [cut_to _ _ (by rw [List.length_map]; omega), ← List.map_take] at e7
          refine z_inLP e7 rfl (flatS _) ?_
          rw [inVS]
          one_sign
          refine iteD (fun hm => ?_) (fun hm => ?_)
          · one_sign
            rw [if_neg (nd1 hm)] at hcw
            rw [hcw] at k
            exact k _ ((((F3.trans f4).trans f5).trans f6).trans f7)
          · one_sign
            exact ⟨_, rfl, nd2 hm, f6.trans f7⟩
        · obtain ⟨v, rfl, hnd, f6⟩ := hJ
          rw [List.take_length] at hnd
          rw [if_pos hnd] at hcw
          have h6 := f6.g0 e5
          one_sign
          rw [List.length_map]
          refine iteD (fun h2 => ?_) (fun h2 => ?_)
          · one_sign
            rw [if_pos (by omega)] at hcw
            rw [hcw] at k
            exact k _ (((F3.trans f4).trans f5).trans f6)
          · rw [if_neg (by omega)] at hcw
            one_sign
            exact ⟨_, _, _, rfl, hcw, (f4.trans f5).trans f6⟩
      · rw [if_neg hL] at hcw
        one_sign
        exact ⟨_, _, _, rfl, hcw, f4⟩
    · obtain ⟨v5, v6, v8, rfl, hcw, f4⟩ := hI
      rw [List.length_map, S.len, List.drop_length] at hcw
      one_sign
      rw [hcw] at k
      exact k _ (F3.trans f4)
end

end LX
namespace LX
open PySem PySem.Spec PyProof.Rows L2 NdefX
set_option hygiene false in
local macro_rules | `(tactic| k_memK) => `(tactic| first | exact W.na_Kind_name | exact W.na_Kind_superclass | exact W.na_Kind_fields | exact W.na_Change_name | exact W.na_Change_old | exact W.na_Change_new | exact W.na_Change_origins)
set_option hygiene false in
local macro_rules | `(tactic| k_ownIn) => `(tactic| first | exact W.C_Kind | exact W.C_Change)
local macro_rules | `(tactic| none_booked) => `(tactic| first | assumption | (refine Fr.g0 (by assumption) ?_; none_booked))
local macro_rules | `(tactic| one_sign) => `(tactic| repeat (first
  | refine Stp.h ?_
  | ((with_reducible refine' z_fld1 ?k0 ?k1 ?k2 ?k3 ?_); (case k0 => none_booked); (case k1 => k_ownIn); (case k2 => k_memK); (case k3 => rfl))
  | ((with_reducible refine' z_meth1 ?k0 ?k1 ?_); (case k0 => none_booked); (case k1 => rfl))
  | ((with_reducible refine' z_bmL ?k0 ?_); (case k0 => none_booked))
  | ((with_reducible refine' z_lenL ?k0 ?_); (case k0 => none_booked))
  | ((with_reducible refine' z_lenT ?k0 ?_); (case k0 => none_booked))
  | ((with_reducible refine' z_lenD ?k0 ?_); (case k0 => none_booked))
  | ((with_reducible refine' z_truL ?k0 ?_); (case k0 => none_booked))
  | ((with_reducible refine' z_truD ?k0 ?_); (case k0 => none_booked))
  | ((with_reducible refine' z_truT ?k0 ?_); (case k0 => none_booked))
  | ((with_reducible refine' z_inDIP ?k0 ?_); (case k0 => none_booked))
  | ((with_reducible refine' z_inDIN ?k0 ?_); (case k0 => none_booked))
  | ((with_reducible refine' z_inDfP ?k0 ?_); (case k0 => none_booked))
  | ((with_reducible refine' z_inDfN ?k0 ?_); (case k0 => none_booked))
  | ((with_reducible refine' z_iList1 ?k0 ?_); (case k0 => none_booked))
  | ((with_reducible refine' z_isi0 ?k0 ?k1 ?k2 ?_); (case k0 => exact (ClsV.ty _)); (case k1 => exact (TyX.base (TyOf.lst (by none_booked)))); (case k2 => first | exact kt_list_int | exact kt_list_bool | exact kt_list_str | exact kt_list_list | exact kt_list_tuple | exact kt_list_dict))
  | ((with_reducible refine' z_rI ?k0 ?_); (case k0 => first | exact (by decide : (0 : Int) < _) | exact ⟨by decide, by decide⟩ | exact ⟨by decide, by decide, by decide⟩ | (show (0 : Int) < _; omega)))
  | ((with_reducible refine' z_mulI ?k0 ?_); (case k0 => first | exact Or.inr ⟨by decide, by decide⟩ | exact Or.inl ⟨by decide, by decide⟩ | exact Or.inl ⟨by omega, by omega⟩ | exact Or.inr ⟨by omega, by omega⟩))))
local macro_rules | `(tactic| leaf_len) => `(tactic| (simp only [wipe, List.map_cons, List.map_nil, List.set_cons_zero, List.set_cons_succ]; one_sign; refine z_ok rfl ?_; one_sign))
theorem ixN_nat {n i : Nat} (h : i < n) : ixN n (i : Int) = some i := by
  unfold ixN
  rw [if_pos (by omega), if_pos (by omega)]
  simp
/-- what planned and due tell -/
def RwAt (H : Hp) (b : Addr) (c : Ch) : Prop := ∃ t1 t2 t3, H b = some (.lst [.str c.nm, .ref t1, .ref t2, .ref t3]) ∧ H t1 = some (.tup (c.old.map V.str)) ∧ H t2 = some (.tup (c.new.map V.str)) ∧ H t3 = some (.tup (c.new.map (orgV c.old)))
def RwsAt (H : Hp) (B : List Addr) (cs : List Ch) : Prop := B.length = cs.length ∧ ∀ (i : Nat) (b : Addr) (c : Ch), B[i]? = some b → cs[i]? = some c → RwAt H b c
def DueAt (H : Hp) (q : Addr) (wd : Str) (cs : List Ch) : Prop := ∃ m B, H q = some (.lst [.str wd, .ref m]) ∧ H m = some (.lst (B.map V.ref)) ∧ RwsAt H B cs
theorem RwAt.keep {H H' : Hp} {b : Addr} {c : Ch} (h : RwAt H b c) (f : Fr [] H H') : RwAt H' b c := let ⟨t1, t2, t3, h0, h1, h2, h3⟩ := h; ⟨t1, t2, t3, f.g0 h0, f.g0 h1, f.g0 h2, f.g0 h3⟩
theorem RwsAt.keep {H H' : Hp} {B : List Addr} {cs : List Ch} (h : RwsAt H B cs) (f : Fr [] H H') : RwsAt H' B cs := ⟨h.1, fun i b c h1 h2 => (h.2 i b c h1 h2).keep f⟩
theorem DueAt.keep {H H' : Hp} {q : Addr} {wd : Str} {cs : List Ch} (h : DueAt H q wd cs) (f : Fr [] H H') : DueAt H' q wd cs := let ⟨m, B, h0, h1, h2⟩ := h; ⟨m, B, f.g0 h0, f.g0 h1, h2.keep f⟩
theorem RwsAt.snoc {H : Hp} {B : List Addr} {cs : List Ch} {b : Addr} {c : Ch} (h : RwsAt H B cs) (hb : RwAt H b c) : RwsAt H (B ++ [b]) (cs ++ [c]) := by
  refine ⟨by rw [List.length_append, List.length_append, h.1]; rfl, fun j y c' h1 h2 => ?_⟩
  by_cases hj : j < B.length
  · rw [List.getElem?_append_left hj] at h1
    rw [List.getElem?_append_left (by rw [← h.1]; exact hj)] at h2
    exact h.2 j y c' h1 h2
  · have hj2 : j = B.length := by
      have := (List.getElem?_eq_some_iff.mp h1).1
      rw [List.length_append] at this
      simp only [List.length_cons, List.length_nil] at this
      omega
    rw [List.getElem?_append_right (by omega), hj2, Nat.sub_self] at h1
    rw [List.getElem?_append_right (by rw [← h.1]; omega), ← h.1, hj2, Nat.sub_self] at h2
    cases h1
    cases h2
    exact hb
theorem RwsAt.keepL {H H' : Hp} {B : List Addr} {cs : List Ch} {cl : Addr} {xs : List V} (h : RwsAt H B cs) (hc : H cl = some (.lst xs)) (hn : cl ∉ B) (f : Fr [cl] H H') : RwsAt H' B cs := by
  refine ⟨h.1, fun i b c h1 h2 => ?_⟩
  obtain ⟨t1, t2, t3, z0, z1, z2, z3⟩ := h.2 i b c h1 h2
  have kp : ∀ (x : Addr) (ys : List V), H x = some (.tup ys) → H' x = some (.tup ys) := fun x ys e => f.g e (nin (ne_of e hc (by intro z; cases z)))
  exact ⟨t1, t2, t3, f.g z0 (nin fun e => hn (by rw [← e]; exact List.mem_of_getElem? h1)), kp _ _ z1, kp _ _ z2, kp _ _ z3⟩
def csW (R : List Rw) (n a : Str) (o : List Str) : List Ch := if why R n a o = T [] then chs R (bh R n a o) n R else []
section
variable {P : Program} {w : World} {K : PySem.W.Frag} {mg : Str → Option Value} {base : Heap}
def sp_due : Sp := fun vs H Q _ => ∃ l A R n a f o, vs = [.ref l, .str n, .str a, .ref f] ∧ LkA H l A R ∧ R.length ≤ 100 ∧ (∀ r ∈ R, r.own.length ≤ 40) ∧ H f = some (.lst (o.map V.str)) ∧ o.length ≤ 40 ∧ (∀ z ∈ o, z.length ≤ 1000) ∧ ∀ H' q, Fr [] H H' → DueAt H' q (why R n a o) (csW R n a o) → Q (.ref q) H'
theorem ok__law_due (W : Wd P K mg) : FnOk P w K mg base CX0 3 W.f__law_due W.fd__law_due ["_law_kinds_here", "_law_name", "_law_above", "_law_own"] sp_due := by
  refine W.F__law_due.ok sc__law_due (fun vs H Q E h => by obtain ⟨l, A, R, n, a, f, o, rfl, S, hR, hown, hf, ho, hz, k⟩ := h; rfl) (fun cdv A outer s H vs Q E hr h => ?_)
  obtain ⟨l, A, R, n, a, f, o, rfl, S, hR, hown, hf, ho, hz, k⟩ := h
  have hu1 := hu_of hr
  have hu64 := hu64_of hr
  refine ⟨_, (pss_cons (ps_set (i := 4) sc__law_due.nd rfl (by first | exact Or.inl rfl | exact Or.inr rfl) (pe_call (ok__law_why W) (hr.mono (by decide)) rfl W.g__law_why W.F__law_why.kp W.b__law_why .nil pass0 (pa_cons (pv 0) (pa_cons (pv 1) (pa_cons (pv 2) (pa_cons (pv 3) pa_nil))))))
      (pss_cons (ps_if (pt_cmpR (op_neU hu64) (pv 4) (pe_strT (show (PySem.Str.ofString "") = T [] by decide +kernel)) (by first | exact nomark _ | rfl)) (pss_one (ps_ret (pe_lst (pa_cons (pv 4) (pa_cons (pe_lst pa_nil) pa_nil))))) pss_nil)
      (pss_cons (ps_set (i := 5) sc__law_due.nd rfl (by first | exact Or.inl rfl | exact Or.inr rfl) (pe_call (ok__law_behind W) (hr.mono (by decide)) rfl W.g__law_behind W.F__law_behind.kp W.b__law_behind .nil pass0 (pa_cons (pv 0) (pa_cons (pv 1) (pa_cons (pv 2) (pa_cons (pv 3) pa_nil))))))
      (pss_cons (ps_set (i := 6) sc__law_due.nd rfl (by first | exact Or.inl rfl | exact Or.inr rfl) (pe_lst pa_nil))
      (pss_cons (ps_for PassesOwn.never rfl (pi_list (pv 0)) (pg_name (i := 7) sc__law_due.nd rfl (by first | exact Or.inl rfl | exact Or.inr rfl)) (pss_one (ps_if (pt_truth (pe_call (ok__law_under W) (hr.mono (by decide)) rfl W.g__law_under W.F__law_under.kp W.b__law_under .nil pass0 (pa_cons (pv 0) (pa_cons (pe_ix (ix_U hu1) (pv 7) pe_int (fun _ _ => rfl)) (pa_cons (pv 1) pa_nil)))) (by intro _; rfl)) (pss_cons (ps_set (i := 8) sc__law_due.nd rfl (by first | exact Or.inl rfl | exact Or.inr rfl) (pe_call (ok__law_all W) (hr.mono (by decide)) rfl W.g__law_all W.F__law_all.kp W.b__law_all .nil pass0 (pa_cons (pv 0) (pa_cons (pe_ix (ix_U hu1) (pv 7) pe_int (fun _ _ => rfl)) pa_nil))))
      (pss_cons (ps_set (i := 9) sc__law_due.nd rfl (by first | exact Or.inl rfl | exact Or.inr rfl) (pe_call (ok__law_all W) (hr.mono (by decide)) rfl W.g__law_all W.F__law_all.kp W.b__law_all .nil pass0 (pa_cons (pv 5) (pa_cons (pe_ix (ix_U hu1) (pv 7) pe_int (fun _ _ => rfl)) pa_nil))))
      (pss_cons (ps_set (i := 10) sc__law_due.nd rfl (by first | exact Or.inl rfl | exact Or.inr rfl) (pe_lst pa_nil))
      (pss_cons (ps_for PassesOwn.never rfl (pi_list (pv 9)) (pg_name (i := 11) sc__law_due.nd rfl (by first | exact Or.inl rfl | exact Or.inr rfl)) (pss_cons (ps_expr (pe_bm PySem.F.plainAttrs_list PySem.F.slot_list_append PySem.F.type_list_append mt_append (pv 10) (pa_cons pe_non pa_nil)))
      (pss_one (ps_if (pt_cmpR (op_inU hu1) (pv 11) (pv 8) (by first | exact nomark _ | rfl)) (pss_one (ps_asg (pe_bm PySem.F.plainAttrs_list PySem.F.slot_list_index PySem.F.type_list_index mt_index (pv 8) (pa_cons (pv 11) pa_nil)) (pg_sub (pv 10) (pe_op op_sub (pe_callB call_lenU (by rfl) W.n_len bb_len (pa_cons (pv 10) pa_nil)) pe_int) set_list))) pss_nil))))
      (pss_one (ps_expr (pe_bm PySem.F.plainAttrs_list PySem.F.slot_list_append PySem.F.type_list_append mt_append (pv 6) (pa_cons (pe_lst (pa_cons (pe_ix (ix_U hu1) (pv 7) pe_int (fun _ _ => rfl)) (pa_cons (pe_callTy call_tupleU (by rfl) W.n_tuple bb_tuple (pa_cons (pv 8) pa_nil)) (pa_cons (pe_callTy call_tupleU (by rfl) W.n_tuple bb_tuple (pa_cons (pv 9) pa_nil)) (pa_cons (pe_callTy call_tupleU (by rfl) W.n_tuple bb_tuple (pa_cons (pv 10) pa_nil)) pa_nil))))) pa_nil)))))))) pss_nil)))
      (pss_one (ps_ret (pe_lst (pa_cons (pe_strT (show (PySem.Str.ofString "") = T [] by decide +kernel)) (pa_cons (pv 6) pa_nil)))))))))), ?_⟩
  refine z_start (σ := [some _, some _, some _, some _, none, none, none, none, none, none, none, none]) rfl ?_
  one_sign
  refine ⟨l, A, R, n, a, f, o, rfl, S, hR, hown, hf, ho, hz, fun H1 f1 => ?_⟩
  one_sign
  refine iteND (fun hw => ?_) (fun hw => ?_)
  · one_sign
    refine z_newL (by show 0 ≤ sizeLine; decide) fun e H2 he f2 e2 => ?_
    one_sign
    refine z_newL (by show 2 ≤ sizeLine; decide) fun q H3 hq f3 e3 => ?_
    refine k H3 q ((f1.trans f2).trans f3) ⟨e, [], e3, f3.g0 e2, ?_⟩
    unfold csW
    rw [if_neg hw]
    exact ⟨rfl, fun i b c h _ => by cases h⟩
  rw [show csW R n a o = chs R (bh R n a o) n R from if_pos hw, hw] at k
  one_sign
  refine ⟨l, A, R, n, a, f, o, rfl, S.keep f1, hR, f1.g0 hf, fun H2 q2 B2 f2 hq2 SB => ?_⟩
  have hown2 := bh_own (n := n) (a := a) hown ho
  generalize bh R n a o = R2 at *
  one_sign
  refine z_newL (by show 0 ≤ sizeLine; decide) fun cl H3 hcl f3 e3 => ?_
  have F2 := f1.trans f2
  have S2 := S.keep F2
  have hl3 := (S2.keep f3).l
  one_sign
  refine for_list (K := K) (a := l) (xs := A.map V.ref) (fun i σ H' => ∃ (B : List Addr) (v7 v8 v9 v10 v11 : Option V), σ = [some (.ref l), some (.str n), some (.str a), some (.ref f), some (.str (why R n a o)), some (.ref q2), some (.ref cl), v7, v8, v9, v10, v11] ∧ H' cl = some (.lst (B.map V.ref)) ∧ RwsAt H' B (chs R R2 n (R.take i)) ∧ cl ∉ B ∧ Fr [cl] H3 H')
    ⟨[], none, none, none, none, none, rfl, e3, ⟨rfl, fun i b c h _ => by cases h⟩, (by simp), Fr.rfl'⟩ (fun i σ H' _ e => by obtain ⟨_, _, _, _, _, _, _, _, _, _, f4⟩ := e; exact SqL.of ((f3.in f4 hcl).g0 S2.l)) (fun i x σ H4 hx hI => ?_) (fun σ H4 hI => ?_)
  · obtain ⟨B, v7, v8, v9, v10, v11, rfl, c4, CB, hnB, f4⟩ := hI
    rw [List.getElem?_map] at hx
    obtain ⟨ad, had, rfl⟩ := Option.map_eq_some_iff.mp hx
    obtain ⟨r, hr'⟩ := S.len' had
    have F4 := f3.in f4 hcl
    have S4 := S2.keep F4
    have SB4 := SB.keep F4
    obtain ⟨oo, a1, a2⟩ := S4.it i ad r had hr'
    have hct := chs_take (R := R) (R2 := R2) (n := n) hr'
    have hBl : B.length ≤ 1000 := by
      rw [CB.1]
      unfold chs
      rw [List.length_map]
      have h1 := List.length_filter_le (fun r => lund R 20 r.nm n) (R.take i)
      rw [List.length_take] at h1
      omega
    one_sign
    refine z_ixT a1 (atI_nat (j := 0) rfl) ?_
    one_sign
    refine ⟨l, A, R, r.nm, n, rfl, S4, ?_⟩
    refine ⟨_, rfl, ?_⟩
    refine iteB (fun hL => ?_) (fun hL => ?_)
    · rw [if_pos hL] at hct
      one_sign
      refine z_ixT a1 (atI_nat (j := 0) rfl) ?_
      one_sign
      refine ⟨l, A, R, r.nm, rfl, S4, hown, fun H5 q8 f5 hq8 e5 => ?_⟩
      have l1 := lall_len hown 20 r.nm
      have a15 := f5.g0 a1
      one_sign
      refine z_ixT a15 (atI_nat (j := 0) rfl) ?_
      one_sign
      refine ⟨q2, B2, R2, r.nm, rfl, SB4.keep f5, hown2, fun H6 q9 f6 hq9 e6 => ?_⟩
      have l2 := lall_len hown2 20 r.nm
      generalize lall R2 20 r.nm = L2 at hct e6 l2
      generalize lall R 20 r.nm = L1 at hct e5 l1
      one_sign
      refine z_newL (by show 0 ≤ sizeLine; decide) fun og H7 hog f7 e7 => ?_
      have e6' := f7.g0 e6
      have F57 := (f5.trans f6).trans f7
      one_sign
      refine for_list (K := K) (a := q9) (xs := L2.map V.str) (fun j σ H' => ∃ (v11 : Option V), σ = [some (.ref l), some (.str n), some (.str a), some (.ref f), some (.str (why R n a o)), some (.ref q2), some (.ref cl), some (.ref ad), some (.ref q8), some (.ref q9), some (.ref og), v11] ∧ H' og = some (.lst ((L2.take j).map (orgV L1))) ∧ j ≤ L2.length ∧ Fr [og] H7 H')
        ⟨_, rfl, e7, Nat.zero_le _, Fr.rfl'⟩ (fun j σ H' _ e => by obtain ⟨_, _, _, _, f8⟩ := e; exact SqL.of ((f7.in f8 hog).g0 e6)) (fun j x σ H8 hx hJ => ?_) (fun σ H8 hJ => ?_)
      · obtain ⟨v11, rfl, e8, hj, f8⟩ := hJ
        rw [List.getElem?_map] at hx
        obtain ⟨z, hz', rfl⟩ := Option.map_eq_some_iff.mp hx
        have hjl := (List.getElem?_eq_some_iff.mp hz').1
        have F8 := f7.in f8 hog
        have hog6 : H6 og = none := hog
        have et : (L2.take (j + 1)).map (orgV L1) = (L2.take j).map (orgV L1) ++ [orgV L1 z] := by rw [List.take_succ, hz', List.map_append]; rfl
        have hlen : ((L2.take j).map (orgV L1)).length = j := by rw [List.length_map, List.length_take]; omega
        one_sign
        refine z_append e8 (by rw [hlen, sizeLine_eq]; omega) fun H9 f9 e9 n9 => ?_
        have f89 := f8.trans f9
        have F9 := f7.in f89 hog
        have d9 := F9.g0 (f6.g0 e5)
        one_sign
        refine z_inLP d9 rfl (flatS _) ?_
        rw [inVS]
        one_sign
        refine iteD (fun hm => ?_) (fun hm => ?_)
        · obtain ⟨jj, hjj⟩ := org_mem.mp hm
          one_sign
          refine z_bmIdx d9 hjj ?_
          one_sign
          rw [List.length_append, hlen]
          refine z_setL (j := j) e9 ?_ fun H10 f10 e10 n10 => ?_
          · rw [List.length_append, hlen]
            show ixN (j + 1) ((((j + 1 : Nat) : Int)) - 1) = some j
            rw [show ((((j + 1 : Nat) : Int)) - 1) = ((j : Nat) : Int) by omega]
            exact ixN_nat (by omega)
          · refine ⟨_, rfl, ?_, hjl, f89.trans f10⟩
            rw [et, show orgV L1 z = .int (jj : Nat) from by unfold orgV; rw [hjj]]
            rw [e10]
            congr 2
            rw [List.set_append_right _ _ (by omega), hlen, Nat.sub_self]
            rfl
        · one_sign
          refine ⟨_, rfl, ?_, hjl, f89⟩
          rw [et, show orgV L1 z = .non from by
            unfold orgV
            cases e : org L1 z with
            | none => rfl
            | some jj => exact absurd (org_mem.mpr ⟨jj, e⟩) hm]
          exact e9
      · obtain ⟨v11, rfl, e8, hj, f8⟩ := hJ
        rw [List.length_map, List.take_length] at e8
        have F8 := (f5.trans f6).trans (f7.in f8 hog)
        have a18 := F8.g0 a1
        have d8 := (f7.in f8 hog).g0 (f6.g0 e5)
        have n8 := (f7.in f8 hog).g0 e6
        have c8 := F8.g0 c4
        have CB8 := CB.keep F8
        one_sign
        refine z_ixT a18 (atI_nat (j := 0) rfl) ?_
        one_sign
        refine z_tupL d8 fun t1 H9 ht1 f9 e9 => ?_
        one_sign
        refine z_tupL (f9.g0 n8) fun t2 H10 ht2 f10 e10 => ?_
        one_sign
        refine z_tupL ((f9.trans f10).g0 e8) fun t3 H11 ht3 f11 e11 => ?_
        one_sign
        refine z_newL (by show 4 ≤ sizeLine; decide) fun b H12 hb f12 e12 => ?_
        have F12 := ((f9.trans f10).trans f11).trans f12
        have c12 := F12.g0 c8
        have hbc : b ≠ cl := fun e => by rw [e, ((f9.trans f10).trans f11).g0 c8] at hb; cases hb
        have CB12 : RwsAt H12 (B ++ [b]) (chs R R2 n (R.take i) ++ [⟨r.nm, L1, L2⟩]) := (CB8.keep F12).snoc ⟨t1, t2, t3, e12, ((f10.trans f11).trans f12).g0 e9, (f11.trans f12).g0 e10, f12.g0 e11⟩
        have hn12 : cl ∉ B ++ [b] := fun m => by
          rcases List.mem_append.mp m with m | m
          · exact hnB m
          · rw [List.mem_singleton] at m
            exact hbc m.symm
        one_sign
        refine z_append c12 (by rw [List.length_map, sizeLine_eq]; omega) fun H13 f13 e13 n13 => ?_
        one_sign
        exact ⟨B ++ [b], _, _, _, _, _, rfl, by rw [List.map_append]; exact e13, by rw [hct]; exact CB12.keepL c12 hn12 f13, hn12, ((f4.trans (F8.mono (by simp))).trans (F12.mono (by simp))).trans f13⟩
    · rw [if_neg hL, List.append_nil] at hct
      one_sign
      exact ⟨B, _, _, _, _, _, rfl, c4, by rw [hct]; exact CB, hnB, f4⟩
  · obtain ⟨B, v7, v8, v9, v10, v11, rfl, c4, CB, hnB, f4⟩ := hI
    rw [List.length_map, S.len, List.take_length] at CB
    one_sign
    refine z_newL (by show 2 ≤ sizeLine; decide) fun q H5 hq f5 e5 => ?_
    exact k H5 q ((F2.trans (f3.in f4 hcl)).trans f5) ⟨cl, B, e5, f5.g0 c4, CB.keep f5⟩
end

end LX
namespace LX
open PySem PySem.Spec PyProof.Rows L2 NdefX
set_option hygiene false in
local macro_rules | `(tactic| k_memK) => `(tactic| first | exact W.na_Kind_name | exact W.na_Kind_superclass | exact W.na_Kind_fields | exact W.na_Change_name | exact W.na_Change_old | exact W.na_Change_new | exact W.na_Change_origins)
set_option hygiene false in
local macro_rules | `(tactic| k_ownIn) => `(tactic| first | exact W.C_Kind | exact W.C_Change)
local macro_rules | `(tactic| none_booked) => `(tactic| first | assumption | (refine Fr.g0 (by assumption) ?_; none_booked))
local macro_rules | `(tactic| one_sign) => `(tactic| repeat (first
  | refine Stp.h ?_
  | ((with_reducible refine' z_fld1 ?k0 ?k1 ?k2 ?k3 ?_); (case k0 => none_booked); (case k1 => k_ownIn); (case k2 => k_memK); (case k3 => rfl))
  | ((with_reducible refine' z_meth1 ?k0 ?k1 ?_); (case k0 => none_booked); (case k1 => rfl))
  | ((with_reducible refine' z_bmL ?k0 ?_); (case k0 => none_booked))
  | ((with_reducible refine' z_lenL ?k0 ?_); (case k0 => none_booked))
  | ((with_reducible refine' z_lenT ?k0 ?_); (case k0 => none_booked))
  | ((with_reducible refine' z_lenD ?k0 ?_); (case k0 => none_booked))
  | ((with_reducible refine' z_truL ?k0 ?_); (case k0 => none_booked))
  | ((with_reducible refine' z_truD ?k0 ?_); (case k0 => none_booked))
  | ((with_reducible refine' z_truT ?k0 ?_); (case k0 => none_booked))
  | ((with_reducible refine' z_inDIP ?k0 ?_); (case k0 => none_booked))
  | ((with_reducible refine' z_inDIN ?k0 ?_); (case k0 => none_booked))
  | ((with_reducible refine' z_inDfP ?k0 ?_); (case k0 => none_booked))
  | ((with_reducible refine' z_inDfN ?k0 ?_); (case k0 => none_booked))
  | ((with_reducible refine' z_iList1 ?k0 ?_); (case k0 => none_booked))
  | ((with_reducible refine' z_isi0 ?k0 ?k1 ?k2 ?_); (case k0 => exact (ClsV.ty _)); (case k1 => exact (TyX.base (TyOf.lst (by none_booked)))); (case k2 => first | exact kt_list_int | exact kt_list_bool | exact kt_list_str | exact kt_list_list | exact kt_list_tuple | exact kt_list_dict))
  | ((with_reducible refine' z_rI ?k0 ?_); (case k0 => first | exact (by decide : (0 : Int) < _) | exact ⟨by decide, by decide⟩ | exact ⟨by decide, by decide, by decide⟩ | (show (0 : Int) < _; omega)))
  | ((with_reducible refine' z_mulI ?k0 ?_); (case k0 => first | exact Or.inr ⟨by decide, by decide⟩ | exact Or.inl ⟨by decide, by decide⟩ | exact Or.inl ⟨by omega, by omega⟩ | exact Or.inr ⟨by omega, by omega⟩))))
local macro_rules | `(tactic| leaf_len) => `(tactic| (simp only [wipe, List.map_cons, List.map_nil, List.set_cons_zero, List.set_cons_succ]; one_sign; refine z_ok rfl ?_; one_sign))
def KdsAt (C : Addr) (H : Hp) (A : List Addr) (ks : List Kd) : Prop := A.length = ks.length ∧ ∀ (i : Nat) (a : Addr) (k : Kd), A[i]? = some a → ks[i]? = some k → KdAt C H a k
theorem KdsAt.keep {C : Addr} {H H' : Hp} {A : List Addr} {ks : List Kd} (h : KdsAt C H A ks) (f : Fr [] H H') : KdsAt C H' A ks := ⟨h.1, fun i a k h1 h2 => (h.2 i a k h1 h2).keep0 f⟩
theorem KdAt.keepL {C : Addr} {H H' : Hp} {a q : Addr} {k : Kd} {xs : List V} (h : KdAt C H a k) (hq : H q = some (.lst xs)) (f : Fr [q] H H') : KdAt C H' a k := h.keep f (fun b hb ys e => by
    rw [List.mem_singleton] at hb
    subst hb
    rw [hq] at e; cases e) (fun b hb dx fs e => by
    rw [List.mem_singleton] at hb
    subst hb
    rw [hq] at e; cases e)
theorem KdsAt.keepL {C : Addr} {H H' : Hp} {A : List Addr} {ks : List Kd} {q : Addr} {xs : List V} (h : KdsAt C H A ks) (hq : H q = some (.lst xs)) (f : Fr [q] H H') : KdsAt C H' A ks := ⟨h.1, fun i a k h1 h2 => (h.2 i a k h1 h2).keepL hq f⟩
theorem KdsAt.app {C : Addr} {H : Hp} {A A' : List Addr} {ks ks' : List Kd} (h : KdsAt C H A ks) (h' : KdsAt C H A' ks') : KdsAt C H (A ++ A') (ks ++ ks') := by
  refine ⟨by rw [List.length_append, List.length_append, h.1, h'.1], fun i a k h1 h2 => ?_⟩
  by_cases hi : i < A.length
  · rw [List.getElem?_append_left hi] at h1
    rw [List.getElem?_append_left (by rw [← h.1]; exact hi)] at h2
    exact h.2 i a k h1 h2
  · rw [List.getElem?_append_right (by omega)] at h1
    rw [List.getElem?_append_right (by rw [← h.1]; omega), ← h.1] at h2
    exact h'.2 _ a k h1 h2
theorem KdsAt.one {C : Addr} {H : Hp} {a : Addr} {k : Kd} (h : KdAt C H a k) : KdsAt C H [a] [k] := ⟨rfl, fun i b k' h1 h2 => by
  cases i with
  | zero => cases h1; cases h2; exact h
  | succ i => cases h1⟩
theorem cut_from1 (x : V) (ys : List V) : cutV (x :: ys) (some 1) none = ys := by
  unfold cutV
  have h1 : HT.sIx (x :: ys).length 0 (some 1) = min 1 (x :: ys).length := HT.sIx_nat _ _ 1
  have h2 : HT.sIx (x :: ys).length (x :: ys).length none = (x :: ys).length := rfl
  rw [h1, h2]
  simp
theorem z_slT {K : PySem.W.Frag} {H : Hp} {a : Addr} {xs : List V} {lo hi : Option Int} {Q : VK} (h1 : SqT K H a xs) (hn : ¬ (HT.sIx xs.length 0 lo = 0 ∧ HT.sIx xs.length xs.length hi = xs.length)) (h : ∀ p H1, H p = none → Fr [] H H1 → H1 p = some (.tup (cutV xs lo hi)) → Q (.ref p) H1) : rSlU K (.ref a) lo hi H Q := Or.inr ⟨a, xs, rfl, h1, fun z => (hn z).elim, fun _ => z_new h⟩
theorem z_ixU {K : PySem.W.Frag} {H : Hp} {p : Addr} {xs : List V} {i : Int} {v : V} {Q : VK} (h1 : SqT K H p xs) (h2 : atI xs i = some v) (h : Q v H) : rIxU K (.ref p) (.int i) H Q := Or.inl ⟨xs, i, v, rfl, Or.inr h1, h2, h⟩
theorem RwsAt.not {H : Hp} {M : List Addr} {cs : List Ch} {q : Addr} (h : RwsAt H M cs) (hq : H q = some (.lst (M.map V.ref))) (hm : q ∈ M) : False := by
  obtain ⟨i, hi⟩ := List.getElem?_of_mem hm
  obtain ⟨c, hc⟩ : ∃ c, cs[i]? = some c := ⟨_, List.getElem?_eq_getElem (by rw [← h.1]; exact (List.getElem?_eq_some_iff.mp hi).1)⟩
  obtain ⟨t1, t2, t3, z0, _⟩ := h.2 i q c hi hc
  rw [hq] at z0
  have e := HO.lst.inj (Option.some.inj z0)
  cases M with
  | nil => cases hm
  | cons x M => cases e
theorem dpall_strs {K : PySem.W.Frag} {H : Hp} : ∀ o : List Str, DpAll K H (o.map V.str) (o.map PyData.str)
  | [] => .nil
  | z :: o => .cons (.str z) (dpall_strs o)
theorem eqv_strs : ∀ o : List Str, PyData.eqvAll (o.map PyData.str) (o.map PyData.str) = true
  | [] => rfl
  | z :: o => by
    show (PyData.eqv (.str z) (.str z) && PyData.eqvAll (o.map .str) (o.map .str)) = true
    rw [eqv_strs o]
    simp [PyData.eqv]
theorem lay_strs : ∀ {o : List Str}, (∀ z ∈ o, PyData.canLay0 (.str z) = true) → PyData.canLayAll0 (o.map PyData.str) = true
  | [], _ => rfl
  | z :: o, h => by
    show (PyData.canLay0 (.str z) && PyData.canLayAll0 (o.map PyData.str)) = true
    rw [h z List.mem_cons_self, lay_strs fun y hy => h y (List.mem_cons_of_mem _ hy)]
    rfl
theorem dep_strs : ∀ o : List Str, PyData.depthAll (o.map PyData.str) ≤ PyData.depth (.str (T []))
  | [] => by simp [PyData.depthAll]
  | z :: o => by
    have := dep_strs o
    simp only [List.map_cons, PyData.depthAll]
    exact Nat.max_le.mpr ⟨Nat.le_of_eq (by simp [PyData.depth]), this⟩
theorem shaped_strs {o : List Str} (h : ∀ z ∈ o, PyData.canLay0 (.str z) = true) : SeqAt.shaped (.list (o.map PyData.str)) = true := by
  unfold SeqAt.shaped
  have h1 := lay_strs h
  have h2 := dep_strs o
  rw [Bool.and_eq_true, decide_eq_true_eq]
  exact ⟨by simpa [PyData.canLay0] using h1, by simp only [PyData.depth] at h2 ⊢; omega⟩
section
variable {P : Program} {w : World} {K : PySem.W.Frag} {mg : Str → Option Value} {base : Heap}
theorem Fr.skip' {H H' H3 : Hp} {d : Addr} {o : HO} (f : Fr [] H H') (hd : H' d = Option.none) (g : Fr [] (L2.upd H' d o) H3) : Fr [] H H3 := (f.trans (Fr.new hd)).trans g
def sp_pld (C CC : Addr) : Sp := fun vs H Q _ => ∃ l A R n a f o, vs = [.ref l, .str n, .str a, .ref f] ∧ LkA H l A R ∧ Gd R ∧ R.length ≤ 100 ∧ Wf R 10 ∧ (∀ r ∈ R, r.own.length ≤ 40) ∧ H f = some (.lst (o.map V.str)) ∧ o.length ≤ 40 ∧ (∀ z ∈ o, z.length ≤ 1000) ∧ (∀ z ∈ o, PyData.canLay0 (.str z) = true) ∧
  ∀ H' q, Fr [] H H' → DueAt H' q (why R n a o) (csW R n a o) → Q (.ref q) H'
theorem ok__law_planned (W : Wd P K mg) : FnOk P w K mg base CX0 5 W.f__law_planned W.fd__law_planned ["_law_kinds_here", "_law_name", "_law_above", "_law_own"] (sp_pld W.c_Kind W.c_Change) := by
  refine W.F__law_planned.ok sc__law_planned (fun vs H Q E h => by obtain ⟨l, A, R, n, a, f, o, rfl, S, g, hR, wf, hown, hf, ho, hz, hlay, k⟩ := h; rfl) (fun cdv A outer s H vs Q E hr h => ?_)
  obtain ⟨l, A, R, n, a, f, o, rfl, S, g, hR, wf, hown, hf, ho, hz, hlay, k⟩ := h
  have hu1 := hu_of hr
  have hu64 := hu64_of hr
  refine ⟨_, (pss_cons (ps_set (i := 4) sc__law_planned.nd rfl (by first | exact Or.inl rfl | exact Or.inr rfl) (pe_op op_addU (pe_lst (pa_cons (pe_make W.M_Kind (ok_Kind___init__ W) (hr.mono (by decide)) rfl W.g_Kind W.b_Kind___init__ .nil pass0 (pa_cons (pe_ix (ix_U hu1) (pe_gr rfl W.g_KERNEL) pe_int (fun _ _ => rfl)) (pa_cons pe_non (pa_cons (pe_tup pa_nil) pa_nil)))) pa_nil)) (pe_lc (own := [("_law_one", 5)]) (g := gName 5) (tt := tYes) rfl sc__law_planned.nd (pi_tup (pe_slice sl_U (pe_gr rfl W.g_KERNEL) (po_some pe_int) po_none)) (blkOk_by (N := N__law_planned) (sc := defScope s__law_planned) (by decide +kernel)) (fun _ _ _ _ _ => (pg_name (i := 5) sc__law_planned.nd rfl (by first | exact Or.inl rfl | exact Or.inr rfl))) (fun _ _ _ _ _ => pts_nil) (fun _ _ _ _ _ => (pe_make W.M_Kind (ok_Kind___init__ W) (hr.mono (by decide)) rfl W.g_Kind W.b_Kind___init__ .nil pass0 (pa_cons (pv 5) (pa_cons (pe_strT (show (PySem.Str.ofString "Object") = T [79, 98, 106, 101, 99, 116] by decide +kernel)) (pa_cons (pe_tup pa_nil) pa_nil))))))))
      (pss_cons (ps_set (i := 4) sc__law_planned.nd rfl (by first | exact Or.inl rfl | exact Or.inr rfl) (pe_op op_addU (pv 4) (pe_lc (own := [("_law_one", 5)]) (g := gName 5) (tt := tYes) rfl sc__law_planned.nd (pi_list (pv 0)) (blkOk_by (N := N__law_planned) (sc := defScope s__law_planned) (by decide +kernel)) (fun _ _ _ _ _ => (pg_name (i := 5) sc__law_planned.nd rfl (by first | exact Or.inl rfl | exact Or.inr rfl))) (fun _ _ _ _ _ => pts_nil) (fun _ _ _ _ _ => (pe_make W.M_Kind (ok_Kind___init__ W) (hr.mono (by decide)) rfl W.g_Kind W.b_Kind___init__ .nil pass0 (pa_cons (pe_ix (ix_UK (K := K) rfl (by exact hu1)) (pv 5) pe_int (fun _ _ => rfl)) (pa_cons (pe_ix (ix_UK (K := K) rfl (by exact hu1)) (pv 5) pe_int (fun _ _ => rfl)) (pa_cons (pe_ix (ix_UK (K := K) rfl (by exact hu1)) (pv 5) pe_int (fun _ _ => rfl)) pa_nil))))))))
      (pss_cons (ps_set (i := 6) sc__law_planned.nd rfl (by first | exact Or.inl rfl | exact Or.inr rfl) (pe_callTy call_listU (by rfl) W.n_list bb_list (pa_cons (pv 3) pa_nil)))
      (pss_one (ps_tryAs (K := K) (i := 7) rfl rfl rfl sc__law_planned.nd rfl rfl ⟨rfl, by decide, .inl W.g_BadClass⟩ takes0N (fun _ pn xe tk _ => (pss_cons (ps_set (i := 8) sc__law_planned.nd rfl (by first | exact Or.inl rfl | exact Or.inr rfl) (pe_callS (ok_plan_change W) (hr.mono (by decide)) rfl W.g_plan_change W.F_plan_change.kp W.b_plan_change (fun σ => L2N.passAt tk σ) (pa_cons (pv 4) (pa_cons (pv 1) (pa_cons (pv 2) (pa_cons (pv 6) pa_nil))))))
      (pss_cons (ps_if (pt_cmpR (op_neUK (K := K) rfl (by exact hu64)) (pv 6) (pv 3) (by first | exact nomark _ | rfl)) (pss_one (ps_ret (pe_lst (pa_cons (pe_strT (show (PySem.Str.ofString "changed") = T [99, 104, 97, 110, 103, 101, 100] by decide +kernel)) (pa_cons (pe_lst pa_nil) pa_nil))))) pss_nil)
      (pss_one (ps_ret (pe_lst (pa_cons (pe_strT (show (PySem.Str.ofString "") = T [] by decide +kernel)) (pa_cons (pe_lc (own := [("_law_one", 5)]) (g := gName 5) (tt := tYes) rfl sc__law_planned.nd (pi_listK (K := K) rfl (pv 8)) (blkOk_by (N := N__law_planned) (sc := defScope s__law_planned) (by decide +kernel)) (fun _ _ _ _ _ => (pg_name (i := 5) sc__law_planned.nd rfl (by first | exact Or.inl rfl | exact Or.inr rfl))) (fun _ _ _ _ _ => pts_nil) (fun _ _ _ _ _ => (pe_lst (pa_cons (pe_fldK (K := K) rfl (pv 5) rfl) (pa_cons (pe_fldK (K := K) rfl (pv 5) rfl) (pa_cons (pe_fldK (K := K) rfl (pv 5) rfl) (pa_cons (pe_fldK (K := K) rfl (pv 5) rfl) pa_nil))))))) pa_nil)))))))) (fun a oe cls d pn hz hf => (pss_one (ps_ret (pe_lst (pa_cons (pe_xfPK (K := K) rfl List.mem_cons_self (show PinE cls d oe from ⟨hz, hf⟩) (pv 7)) (pa_cons (pe_lst pa_nil) pa_nil))))))))))), ?_⟩
  refine z_start (σ := [some _, some _, some _, some _, none, none, none, none, none]) rfl ?_
  one_sign
  have KK : ∀ H' : Hp, SqT K H' W.a_KERNEL (KERN.map V.str) := fun H' => W.tp_KERNEL H'
  refine z_ixU (KK _) (atI_nat (j := 0) rfl) ?_
  one_sign
  refine z_newL (by show 0 ≤ sizeLine; decide) fun t0 H1 ht0 f1 e1 => ?_
  intro x0 dx0 hx0 hdx0 nx0
  refine mk_kind (nm := OBJ) (sup := none) (fl := []) rfl (Or.inr e1) hx0 hdx0 nx0 fun H2 f2 K0 => ?_
  one_sign
  refine z_newL (by show 1 ≤ sizeLine; decide) fun q0 H3 hq0 f3 q3 => ?_
  one_sign
  refine z_slT (KK _) (by decide) fun tk H4 htk f4 k4 => ?_
  rw [show cutV (KERN.map V.str) (some 1) none = KERN.tail.map V.str from cut_from1 _ _] at k4
  one_sign
  refine z_iTup1 (SqT.of k4) ?_
  one_sign
  refine z_lcU (SqT.of k4) (fun i xs H' => ∃ A1, xs = A1.map V.ref ∧ KdsAt W.c_Kind H' A1 ((KERN.tail.take i).map kkd)) (fun _ _ _ _ => ⟨[], rfl, rfl, fun i a k h _ => by cases h⟩) (fun Rr i x xs H' hRr hi hil hxl hP hX f5 => ?_) (fun q1 xs H5 hq1 hP hxl hX f5 => ?_)
  · rw [List.getElem?_map] at hi
    obtain ⟨z, hz', rfl⟩ := Option.map_eq_some_iff.mp hi
    obtain ⟨A1, rfl, KA⟩ := hP
    leaf_len
    refine z_newL (by show 0 ≤ sizeLine; decide) fun t1 H6 ht1 f6 e6 => ?_
    intro x dx hx hdx nx
    refine mk_kind (nm := z) (sup := some OBJ) (fl := []) rfl (Or.inr e6) hx hdx nx fun H7 f7 K1 => ?_
    have f67 := f6.trans f7
    have hX7 := f67.g0 hX
    refine z_lcY hRr hX7 (f5.trans f67) hxl (by have : i < 14 := hil; rw [sizeLine_eq]; omega) fun H8 f8 _ _ => ?_
    refine ⟨A1 ++ [x], by rw [List.map_append]; rfl, ?_⟩
    rw [List.take_succ, hz', List.map_append]
    exact ((KA.keep f67).app (KdsAt.one K1)).keepL hX7 f8
  obtain ⟨A1, rfl, KA1⟩ := hP
  rw [show (KERN.tail.map V.str).length = KERN.tail.length from List.length_map _, List.take_length] at KA1
  one_sign
  have F5 := (f3.trans f4).trans f5
  refine z_addL ((f4.trans f5).g0 q3) hX (by rw [List.length_map, KA1.1, sizeLine_eq]; show 1 + 14 ≤ _; omega) fun q2 H6 hq2 f6 e6 => ?_
  have KA6 : KdsAt W.c_Kind H6 (x0 :: A1) (okd :: KERN.tail.map kkd) := (KdsAt.one (K0.keep0 (F5.trans f6))).app (KA1.keep f6)
  have F6 := ((f1.trans f2).trans F5).trans f6
  have hl6 := F6.g0 S.l
  have S6 := S.keep F6
  one_sign
  refine z_lcL hl6 (fun i xs H' => ∃ A2, xs = A2.map V.ref ∧ KdsAt W.c_Kind H' A2 ((R.take i).map rkd)) (fun _ _ _ _ => ⟨[], rfl, rfl, fun i a k h _ => by cases h⟩) (fun Rr i x xs H' hRr hi hil hxl hP hX f7 => ?_) (fun q4 xs H7 hq4 hP hxl hX7 f7 => ?_)
  · rw [List.getElem?_map] at hi
    obtain ⟨ad, had, rfl⟩ := Option.map_eq_some_iff.mp hi
    obtain ⟨r, hr'⟩ := S.len' had
    obtain ⟨A2, rfl, KA⟩ := hP
    obtain ⟨oo, a1, a2⟩ := (S6.keep f7).it i ad r had hr'
    have hil2 := (List.getElem?_eq_some_iff.mp hr').1
    leaf_len
    refine z_ixT a1 (atI_nat (j := 0) rfl) ?_
    one_sign
    refine z_ixT a1 (atI_nat (j := 1) rfl) ?_
    one_sign
    refine z_ixT a1 (atI_nat (j := 2) rfl) ?_
    one_sign
    intro x dx hx hdx nx
    refine mk_kind (nm := r.nm) (sup := some r.ab) (fl := r.own) rfl (Or.inl a2) hx hdx nx fun H8 f8 K1 => ?_
    have hX8 := f8.g0 hX
    refine z_lcY hRr hX8 (f7.trans f8) hxl (by rw [sizeLine_eq]; omega) fun H9 f9 _ _ => ?_
    refine ⟨A2 ++ [x], by rw [List.map_append]; rfl, ?_⟩
    rw [List.take_succ, hr', List.map_append]
    exact ((KA.keep f8).app (KdsAt.one K1)).keepL hX8 f9
  obtain ⟨A2, rfl, KA2⟩ := hP
  rw [List.length_map, S.len, List.take_length] at KA2
  have e67 := f7.g0 e6
  one_sign
  refine z_addL e67 hX7 (by rw [List.length_append, List.length_map, List.length_map, KA1.1, KA2.1, List.length_map, List.length_map, sizeLine_eq]; show 1 + 14 + R.length ≤ _; omega) fun q5 H8 hq5 f8 e8 => ?_
  have KS : KsA W.c_Kind H8 q5 ((x0 :: A1) ++ A2) (gv R) := by
    have h := (KA6.keep (f7.trans f8)).app (KA2.keep f8)
    exact ⟨by rw [e8, List.map_append]; rfl, h.1, h.2⟩
  have F8 := F6.trans (f7.trans f8)
  have hf8 := F8.g0 hf
  one_sign
  refine z_listL hf8 fun ak H9 hak f9 e9 => ?_
  have F9 := F8.trans f9
  have KS9 := KS.keep f9
  one_sign
  unfold tTryAs tCallS
  one_sign
  refine ⟨q5, _, R, n, a, ak, o, rfl, KS9, g, hR, wf, hown, e9, ho, hz, fun hw H' d f10 hd => ?_, fun hw hp H10 qc B f10 CB => ?_⟩
  · refine ⟨true, W.em_BB, fun _ a ha => ?_, (fun z => by cases z)⟩
    one_sign
    refine ⟨_, rfl, rfl, _, _, _, _, rfl, W.E_BadClass, W.xn_BadClass_why, rfl, upd_same, rfl, ?_⟩
    one_sign
    refine z_newL (by show 0 ≤ sizeLine; decide) fun e H11 he f11 e11 => ?_
    one_sign
    refine z_newL (by show 2 ≤ sizeLine; decide) fun q H12 hq f12 e12 => ?_
    refine k H12 q (((F9.trans f10).skip' hd f11).trans f12) ⟨e, [], e12, f12.g0 e11, ?_⟩
    unfold csW
    rw [if_neg hw]
    exact ⟨rfl, fun i b c h _ => by cases h⟩
  · rw [show csW R n a o = chs R (bh R n a o) n R from if_pos hw, hw] at k
    have hak := f10.g0 e9
    have hf10 := (F9.trans f10).g0 hf
    one_sign
    refine ⟨_, _, Dp.lst (SqL.of hak) (dpall_strs o), Dp.lst (SqL.of hf10) (dpall_strs o), shaped_strs hlay, shaped_strs hlay, ?_⟩
    rw [show PyData.eqv (.list (o.map .str)) (.list (o.map .str)) = true from eqv_strs o]
    one_sign
    have hqc := CB.l
    one_sign
    refine z_lcL hqc (fun i xs H' => ∃ M, xs = M.map V.ref ∧ RwsAt H' M ((chs R (bh R n a o) n R).take i)) (fun _ _ _ _ => ⟨[], rfl, rfl, fun i b c h _ => by cases h⟩) (fun Rr i x xs H' hRr hi hil hxl hP hX f11 => ?_) (fun m xs H11 hm hP hxl hX f11 => ?_)
    · rw [List.getElem?_map] at hi
      obtain ⟨ad, had, rfl⟩ := Option.map_eq_some_iff.mp hi
      obtain ⟨c, hc⟩ : ∃ c, (chs R (bh R n a o) n R)[i]? = some c := ⟨_, List.getElem?_eq_getElem (by rw [← CB.len]; exact (List.getElem?_eq_some_iff.mp had).1)⟩
      obtain ⟨M, rfl, RM⟩ := hP
      obtain ⟨dx, t1, t2, t3, c0, c1, c2, c3⟩ := (CB.keep f11).it i ad c had hc
      have hBl : i < 1000 := by
        have h1 := (List.getElem?_eq_some_iff.mp hc).1
        unfold chs at h1
        rw [List.length_map] at h1
        have h2 := List.length_filter_le (fun r => lund R 20 r.nm n) R
        omega
      leaf_len
      refine z_newL (by show 4 ≤ sizeLine; decide) fun b H12 hb f12 e12 => ?_
      have hX12 := f12.g0 hX
      have hbR : Rr ≠ b := fun e => by rw [← e, hX] at hb; cases hb
      have hMR : Rr ∉ M := fun hm => by
        exact RM.not hX hm
      refine z_lcY hRr hX12 (f11.trans f12) hxl (by rw [sizeLine_eq]; omega) fun H13 f13 _ _ => ?_
      refine ⟨M ++ [b], by rw [List.map_append]; rfl, ?_⟩
      · rw [List.take_succ, hc]
        refine RwsAt.keepL ((RM.keep f12).snoc ⟨t1, t2, t3, e12, f12.g0 c1, f12.g0 c2, f12.g0 c3⟩) hX12 (fun m => ?_) f13
        rcases List.mem_append.mp m with m | m
        · exact hMR m
        · rw [List.mem_singleton] at m
          exact hbR m
    · obtain ⟨M, rfl, RM⟩ := hP
      rw [List.length_map, CB.len, List.take_length] at RM
      one_sign
      refine z_newL (by show 2 ≤ sizeLine; decide) fun q H12 hq f12 e12 => ?_
      exact k H12 q (((F9.trans f10).trans f11).trans f12) ⟨m, M, e12, f12.g0 hX, RM.keep f12⟩
end

end LX
namespace LX
open PySem PySem.Spec PyProof.Rows L2 NdefX
set_option hygiene false in
local macro_rules | `(tactic| k_memK) => `(tactic| first | exact W.na_Kind_name | exact W.na_Kind_superclass | exact W.na_Kind_fields | exact W.na_Change_name | exact W.na_Change_old | exact W.na_Change_new | exact W.na_Change_origins)
set_option hygiene false in
local macro_rules | `(tactic| k_ownIn) => `(tactic| first | exact W.C_Kind | exact W.C_Change)
local macro_rules | `(tactic| none_booked) => `(tactic| first | assumption | (refine Fr.g0 (by assumption) ?_; none_booked))
local macro_rules | `(tactic| one_sign) => `(tactic| repeat (first
  | refine Stp.h ?_
  | ((with_reducible refine' z_fld1 ?k0 ?k1 ?k2 ?k3 ?_); (case k0 => none_booked); (case k1 => k_ownIn); (case k2 => k_memK); (case k3 => rfl))
  | ((with_reducible refine' z_meth1 ?k0 ?k1 ?_); (case k0 => none_booked); (case k1 => rfl))
  | ((with_reducible refine' z_bmL ?k0 ?_); (case k0 => none_booked))
  | ((with_reducible refine' z_lenL ?k0 ?_); (case k0 => none_booked))
  | ((with_reducible refine' z_lenT ?k0 ?_); (case k0 => none_booked))
  | ((with_reducible refine' z_lenD ?k0 ?_); (case k0 => none_booked))
  | ((with_reducible refine' z_truL ?k0 ?_); (case k0 => none_booked))
  | ((with_reducible refine' z_truD ?k0 ?_); (case k0 => none_booked))
  | ((with_reducible refine' z_truT ?k0 ?_); (case k0 => none_booked))
  | ((with_reducible refine' z_inDIP ?k0 ?_); (case k0 => none_booked))
  | ((with_reducible refine' z_inDIN ?k0 ?_); (case k0 => none_booked))
  | ((with_reducible refine' z_inDfP ?k0 ?_); (case k0 => none_booked))
  | ((with_reducible refine' z_inDfN ?k0 ?_); (case k0 => none_booked))
  | ((with_reducible refine' z_iList1 ?k0 ?_); (case k0 => none_booked))
  | ((with_reducible refine' z_isi0 ?k0 ?k1 ?k2 ?_); (case k0 => exact (ClsV.ty _)); (case k1 => exact (TyX.base (TyOf.lst (by none_booked)))); (case k2 => first | exact kt_list_int | exact kt_list_bool | exact kt_list_str | exact kt_list_list | exact kt_list_tuple | exact kt_list_dict))
  | ((with_reducible refine' z_rI ?k0 ?_); (case k0 => first | exact (by decide : (0 : Int) < _) | exact ⟨by decide, by decide⟩ | exact ⟨by decide, by decide, by decide⟩ | (show (0 : Int) < _; omega)))
  | ((with_reducible refine' z_mulI ?k0 ?_); (case k0 => first | exact Or.inr ⟨by decide, by decide⟩ | exact Or.inl ⟨by decide, by decide⟩ | exact Or.inl ⟨by omega, by omega⟩ | exact Or.inr ⟨by omega, by omega⟩))))
local macro_rules | `(tactic| leaf_len) => `(tactic| (simp only [wipe, List.map_cons, List.map_nil, List.set_cons_zero, List.set_cons_succ]; one_sign; refine z_ok rfl ?_; one_sign))
section
variable {P : Program} {w : World} {K : PySem.W.Frag} {mg : Str → Option Value} {base : Heap}
theorem z_lenQ {H : Hp} {p : Addr} {ys : List V} {Q : VK} (h1 : SqL K H p ys) (h : Q (.int ys.length) H) : rLenU K [.ref p] H Q := Or.inl ⟨ys, Or.inl h1, h⟩
theorem z_ixQ {H : Hp} {p : Addr} {xs : List V} {i : Int} {v : V} {Q : VK} (h1 : SqL K H p xs) (h2 : atI xs i = some v) (h : Q v H) : rIxU K (.ref p) (.int i) H Q := Or.inl ⟨xs, i, v, rfl, Or.inl h1, h2, h⟩
theorem Fr.seqF {F : List Addr} {H H' : Hp} {a : Addr} {xs : List V} (f : Fr F H H') (h : SqL K H a xs) (n : a ∉ F) : SqL K H' a xs := by
  rcases h with (h | ⟨o, h⟩) | h
  · exact Or.inl (Or.inl (f.g h n))
  · exact Or.inl (Or.inr ⟨o, f.g h n⟩)
  · exact Or.inr h
/-- the script stays the script, whatever comes of the state sl -/
def ScK (K : PySem.W.Frag) (H : Hp) (sl sc : Addr) (ns : List Int) : Prop := ∀ H', Fr [sl] H H' → SqL K H' sc (ns.map V.int)
theorem ScK.new {K : PySem.W.Frag} {H H' : Hp} {sl sc : Addr} {ns : List Int} (h : SqL K H sc (ns.map V.int)) (hs : H sl = none) (f : Fr [] H H') : ScK K H' sl sc ns := fun H2 f2 => by
  rcases h with (h | ⟨o, h⟩) | h
  · exact Or.inl (Or.inl (f2.g (f.g0 h) (nin (ne_of_none h hs))))
  · exact Or.inl (Or.inr ⟨o, f2.g (f.g0 h) (nin (ne_of_none h hs))⟩)
  · exact Or.inr h
theorem ScK.on {K : PySem.W.Frag} {H H' : Hp} {sl sc : Addr} {ns : List Int} (h : ScK K H sl sc ns) (f : Fr [sl] H H') : ScK K H' sl sc ns := fun H2 f2 => h H2 (f.trans f2)
def sp_draw (K : PySem.W.Frag) : Sp := fun vs H Q _ => ∃ (sl sc : Addr) (ns : List Int) (i v : Int) (m : Nat), vs = [.ref sl, .ref sc, .int (m : Int)] ∧ H sl = some (.lst [.int i, .int v]) ∧ ScK K H sl sc ns ∧ ns.length ≤ 63 ∧ 0 ≤ v ∧ 0 < m ∧ m ≤ 1000 ∧
  ∀ (d : Nat) (i' v' : Int) H', d < m → 0 ≤ v' → Fr [sl] H H' → H' sl = some (.lst [.int i', .int v']) → (∀ b, H b = none → H' b = none) → Q (.int (d : Int)) H'
theorem ok__law_draw (W : Wd P K mg) : FnOk P w K mg base CX0 1 W.f__law_draw W.fd__law_draw ["_law_state", "_law_script", "_law_size"] (sp_draw K) := by
  refine W.F__law_draw.ok sc__law_draw (fun vs H Q E h => by obtain ⟨sl, sc, ns, i, v, m, rfl, hsl, hscK, hns, hv, hm0, hm, k⟩ := h; rfl) (fun cdv A outer s H vs Q E hr h => ?_)
  obtain ⟨sl, sc, ns, i, v, m, rfl, hsl, hscK, hns, hv, hm0, hm, k⟩ := h
  have hu1 := hu_of hr
  have hu64 := hu64_of hr
  refine ⟨_, (Evl.pss_cut (ps_if (pt_cmpR (op_eqU hu64) (pe_ix (ix_U hu1) (pv 0) pe_int (fun _ _ => rfl)) pe_int (by first | exact nomark _ | rfl)) (pss_cons (ps_set (i := 3) sc__law_draw.nd rfl (by first | exact Or.inl rfl | exact Or.inr rfl) pe_int)
      (Evl.pss_cut (ps_if (pt_cmpR op_gtU (pe_callB call_lenU (by rfl) W.n_len bb_len (pa_cons (pv 1) pa_nil)) pe_int (by first | exact nomark _ | rfl)) (pss_one (ps_set (i := 3) sc__law_draw.nd rfl (by first | exact Or.inl rfl | exact Or.inr rfl) (pe_ix (ix_U hu1) (pv 1) (pe_op op_mod (pe_ix (ix_U hu1) (pv 0) pe_int (fun _ _ => rfl)) (pe_callB call_lenU (by rfl) W.n_len bb_len (pa_cons (pv 1) pa_nil))) (fun _ _ => rfl)))) pss_nil)
      (Evl.pss_cut (ps_if (pt_cmpR op_ltU (pv 3) pe_int (by first | exact nomark _ | rfl)) (pss_one (ps_set (i := 3) sc__law_draw.nd rfl (by first | exact Or.inl rfl | exact Or.inr rfl) (pe_op op_sub pe_int (pe_op op_mulU pe_int (pv 3))))) pss_nil)
      (pss_cons (ps_set (i := 4) sc__law_draw.nd rfl (by first | exact Or.inl rfl | exact Or.inr rfl) (pe_op op_mod (pe_callTy call_intU (by rfl) W.n_int bb_int (pa_cons (pe_op op_mulU (pe_op op_addU (pe_op op_addU (pv 3) (pe_op op_mulU (pe_ix (ix_U hu1) (pv 0) pe_int (fun _ _ => rfl)) pe_int)) pe_int) pe_int) pa_nil)) pe_int))
      (pss_cons (ps_asg (pe_op op_mod (pe_callTy call_intU (by rfl) W.n_int bb_int (pa_cons (pe_op op_addU (pe_op op_mulU (pv 4) pe_int) (pe_op op_mulU (pe_ix (ix_U hu1) (pv 0) pe_int (fun _ _ => rfl)) pe_int)) pa_nil)) pe_int) (pg_sub (pv 0) pe_int set_list))
      (Evl.pss_cut (ps_if (PW.pt (pw_and (pt_cmpR op_geU (pv 3) (pe_op op_pow pe_int pe_int) (by first | exact nomark _ | rfl)) (pw_and1 (pt_cmpR op_ltU (pe_ix (ix_U hu1) (pv 0) pe_int (fun _ _ => rfl)) (pe_callB call_lenU (by rfl) W.n_len bb_len (pa_cons (pv 1) pa_nil)) (by first | exact nomark _ | rfl))))) (pss_one (ps_asg (pv 3) (pg_sub (pv 0) pe_int set_list))) pss_nil)
      (pss_one (ps_asg (pe_op op_addU (pe_ix (ix_U hu1) (pv 0) pe_int (fun _ _ => rfl)) pe_int) (pg_sub (pv 0) pe_int set_list))))))))) pss_nil)
      (pss_cons (ps_set (i := 5) sc__law_draw.nd rfl (by first | exact Or.inl rfl | exact Or.inr rfl) (pe_op op_mod (pe_callTy call_intU (by rfl) W.n_int bb_int (pa_cons (pe_ix (ix_U hu1) (pv 0) pe_int (fun _ _ => rfl)) pa_nil)) (pv 2)))
      (pss_cons (ps_asg (pe_op op_fdivW (pe_ix (ix_U hu1) (pv 0) pe_int (fun _ _ => rfl)) (pv 2)) (pg_sub (pv 0) pe_int set_list))
      (pss_one (ps_ret (pv 5)))))), ?_⟩
  refine z_start (σ := [some _, some _, some _, none, none, none]) rfl ?_
  one_sign
  have hsc := hscK H Fr.rfl'
  refine ⟨fun σ H' => ∃ (v3 v4 : Option V) (i' v' : Int), σ = [some (.ref sl), some (.ref sc), some (.int (m : Int)), v3, v4, none] ∧ 0 ≤ v' ∧ Fr [sl] H H' ∧ H' sl = some (.lst [.int i', .int v']) ∧ (∀ b, H b = none → H' b = none), ?_, fun σ H' hM => ?_⟩
  · one_sign
    refine z_ixL hsl (atI_nat (j := 1) rfl) ?_
    one_sign
    refine iteD (fun h => ?_) (fun h => ?_)
    · one_sign
      refine ⟨fun σ H' => ∃ x : Int, σ = [some (.ref sl), some (.ref sc), some (.int (m : Int)), some (.int x), none, none] ∧ H' = H, ?_, fun σ H' hM => ?_⟩
      · one_sign
        refine z_lenQ hsc ?_
        one_sign
        rw [List.length_map]
        refine iteD (fun h => ?_) (fun h => ?_)
        · one_sign
          refine z_ixL hsl (atI_nat (j := 0) rfl) ?_
          one_sign
          refine z_lenQ hsc ?_
          one_sign
          rw [List.length_map]
          have h0 : (0 : Int) < (ns.length : Int) := h
          refine z_rI h0 ?_
          have e1 := Int.emod_nonneg i (show (ns.length : Int) ≠ 0 by omega)
          have e2 := Int.emod_lt_of_pos i h0
          obtain ⟨x, hx⟩ : ∃ x, ns[(i % (ns.length : Int)).toNat]? = some x := ⟨_, List.getElem?_eq_getElem (by omega)⟩
          refine z_ixQ hsc (v := .int x) (by
            have : i % (ns.length : Int) = (((i % (ns.length : Int)).toNat : Nat) : Int) := by omega
            rw [this]
            exact atI_nat (by rw [List.getElem?_map, hx]; rfl)) ?_
          one_sign
          exact ⟨x, rfl, rfl⟩
        · one_sign
          exact ⟨0, rfl, rfl⟩
      obtain ⟨x, rfl, rfl⟩ := hM
      refine ⟨fun σ H2 => ∃ x : Int, σ = [some (.ref sl), some (.ref sc), some (.int (m : Int)), some (.int x), none, none] ∧ H2 = H', ?_, fun σ H' hM => ?_⟩
      · one_sign
        refine iteD (fun h => ?_) (fun h => ?_)
        · one_sign
          exact ⟨_, rfl, rfl⟩
        · one_sign
          exact ⟨x, rfl, rfl⟩
      obtain ⟨x, rfl, rfl⟩ := hM
      one_sign
      refine z_ixL hsl (atI_nat (j := 0) rfl) ?_
      one_sign
      refine z_ixL hsl (atI_nat (j := 0) rfl) ?_
      one_sign
      refine z_setL (j := 1) hsl rfl fun H1 f1 e1 n1 => ?_
      have hsc1 := hscK _ f1
      refine ⟨fun σ H2 => ∃ (v4 : Option V) (i' v' : Int), σ = [some (.ref sl), some (.ref sc), some (.int (m : Int)), some (.int x), v4, none] ∧ 0 ≤ v' ∧ Fr [sl] H' H2 ∧ H2 sl = some (.lst [.int i', .int v']) ∧ (∀ b, H' b = none → H2 b = none), ?_, fun σ H2 hM => ?_⟩
      · have base0 : ∀ z : Int, 0 ≤ z % 4294967291 := fun z => Int.emod_nonneg z (by decide)
        one_sign
        refine iteD (fun h => ?_) (fun h => ?_)
        · one_sign
          refine z_ixL e1 (atI_nat (j := 0) rfl) ?_
          one_sign
          refine z_lenQ hsc1 ?_
          one_sign
          refine iteD (fun h2 => ?_) (fun h2 => ?_)
          · one_sign
            refine z_setL (j := 1) e1 rfl fun H2 f2 e2 n2 => ?_
            have h' : (10 : Int) ^ 18 ≤ x := h
            exact ⟨_, _, x, rfl, by omega, f1.trans f2, e2, fun b hb => n2 b (n1 b hb)⟩
          · one_sign
            exact ⟨_, _, _, rfl, base0 _, f1, e1, n1⟩
        · one_sign
          exact ⟨_, _, _, rfl, base0 _, f1, e1, n1⟩
      obtain ⟨v4, i', v', rfl, hv', f2, e2, n2⟩ := hM
      one_sign
      refine z_ixL e2 (atI_nat (j := 0) rfl) ?_
      one_sign
      refine z_setL (j := 0) e2 rfl fun H3 f3 e3 n3 => ?_
      exact ⟨_, _, _, v', rfl, hv', f2.trans f3, e3, fun b hb => n3 b (n2 b hb)⟩
    · one_sign
      exact ⟨_, _, i, v, rfl, hv, Fr.rfl', hsl, fun _ hb => hb⟩
  obtain ⟨v3, v4, i', v', rfl, hv', f1, e1, n1⟩ := hM
  have hmI : (0 : Int) < (m : Int) := by omega
  one_sign
  refine z_ixL e1 (atI_nat (j := 1) rfl) ?_
  one_sign
  refine z_ixL e1 (atI_nat (j := 1) rfl) ?_
  one_sign
  refine z_rI ⟨hmI, ?_⟩ ?_
  · rw [Int.natAbs_natCast]
    exact Nat.lt_trans ((Nat.log2_lt (by omega)).mpr (show m < 2 ^ 10 by omega)) (by decide)
  one_sign
  refine z_setL (j := 1) e1 rfl fun H3 f3 e3 n3 => ?_
  one_sign
  have h1 := Int.emod_nonneg v' (show (m : Int) ≠ 0 by omega)
  have h2 := Int.emod_lt_of_pos v' hmI
  have e : v' % (m : Int) = (((v' % (m : Int)).toNat : Nat) : Int) := by omega
  rw [e]
  exact k (v' % (m : Int)).toNat i' (v' / (m : Int)) H3 (by omega) (Int.ediv_nonneg hv' (by omega)) (f1.trans f3) e3 fun b hb => n3 b (n1 b hb)
end

end LX
namespace LX
open PySem PySem.Spec PyProof.Rows L2 NdefX
set_option hygiene false in
local macro_rules | `(tactic| k_memK) => `(tactic| first | exact W.na_Kind_name | exact W.na_Kind_superclass | exact W.na_Kind_fields | exact W.na_Change_name | exact W.na_Change_old | exact W.na_Change_new | exact W.na_Change_origins)
set_option hygiene false in
local macro_rules | `(tactic| k_ownIn) => `(tactic| first | exact W.C_Kind | exact W.C_Change)
local macro_rules | `(tactic| none_booked) => `(tactic| first | assumption | (refine Fr.g0 (by assumption) ?_; none_booked))
local macro_rules | `(tactic| one_sign) => `(tactic| repeat (first
  | refine Stp.h ?_
  | ((with_reducible refine' z_fld1 ?k0 ?k1 ?k2 ?k3 ?_); (case k0 => none_booked); (case k1 => k_ownIn); (case k2 => k_memK); (case k3 => rfl))
  | ((with_reducible refine' z_meth1 ?k0 ?k1 ?_); (case k0 => none_booked); (case k1 => rfl))
  | ((with_reducible refine' z_bmL ?k0 ?_); (case k0 => none_booked))
  | ((with_reducible refine' z_lenL ?k0 ?_); (case k0 => none_booked))
  | ((with_reducible refine' z_lenT ?k0 ?_); (case k0 => none_booked))
  | ((with_reducible refine' z_lenD ?k0 ?_); (case k0 => none_booked))
  | ((with_reducible refine' z_truL ?k0 ?_); (case k0 => none_booked))
  | ((with_reducible refine' z_truD ?k0 ?_); (case k0 => none_booked))
  | ((with_reducible refine' z_truT ?k0 ?_); (case k0 => none_booked))
  | ((with_reducible refine' z_inDIP ?k0 ?_); (case k0 => none_booked))
  | ((with_reducible refine' z_inDIN ?k0 ?_); (case k0 => none_booked))
  | ((with_reducible refine' z_inDfP ?k0 ?_); (case k0 => none_booked))
  | ((with_reducible refine' z_inDfN ?k0 ?_); (case k0 => none_booked))
  | ((with_reducible refine' z_iList1 ?k0 ?_); (case k0 => none_booked))
  | ((with_reducible refine' z_isi0 ?k0 ?k1 ?k2 ?_); (case k0 => exact (ClsV.ty _)); (case k1 => exact (TyX.base (TyOf.lst (by none_booked)))); (case k2 => first | exact kt_list_int | exact kt_list_bool | exact kt_list_str | exact kt_list_list | exact kt_list_tuple | exact kt_list_dict))
  | ((with_reducible refine' z_rI ?k0 ?_); (case k0 => first | exact (by decide : (0 : Int) < _) | exact ⟨by decide, by decide⟩ | exact ⟨by decide, by decide, by decide⟩ | (show (0 : Int) < _; omega)))
  | ((with_reducible refine' z_mulI ?k0 ?_); (case k0 => first | exact Or.inr ⟨by decide, by decide⟩ | exact Or.inl ⟨by decide, by decide⟩ | exact Or.inl ⟨by omega, by omega⟩ | exact Or.inr ⟨by omega, by omega⟩))))
local macro_rules | `(tactic| leaf_len) => `(tactic| (simp only [wipe, List.map_cons, List.map_nil, List.set_cons_zero, List.set_cons_succ]; one_sign; refine z_ok rfl ?_; one_sign))
def N5 : List Str := [T [65], T [66, 111], T [67, 57], T [68, 100], T [69]]
def F8 : List Str := [T [120], T [121], T [122], T [119], T [108, 111, 110, 103, 49], T [118], T [117], T [116]]

/-- the drawing's state, kept apart by what it holds -/
def StL (H : Hp) (sl : Addr) : Prop := ∃ i v : Int, 0 ≤ v ∧ H sl = some (.lst [.int i, .int v])
theorem StL.keep {H H' : Hp} {sl : Addr} (h : StL H sl) (f : Fr [] H H') : StL H' sl := let ⟨i, v, h0, h1⟩ := h; ⟨i, v, h0, f.g0 h1⟩
theorem StL.ne {H : Hp} {sl a : Addr} {o : HO} (h : StL H sl) (e : H a = some o) (n : ∀ i v : Int, o ≠ .lst [.int i, .int v]) : a ∉ [sl] := by
  obtain ⟨i, v, _, h1⟩ := h
  exact nin (ne_of e h1 fun z => n i v z)
theorem StL.neS {H : Hp} {sl a : Addr} {o : List Str} (h : StL H sl) (e : H a = some (.lst (o.map V.str))) : a ∉ [sl] := h.ne e fun i v z => by
  cases o with
  | nil => cases z
  | cons x o => cases z
theorem StL.neR {H : Hp} {sl a : Addr} {A : List Addr} (h : StL H sl) (e : H a = some (.lst (A.map V.ref))) : a ∉ [sl] := h.ne e fun i v z => by
  cases A with
  | nil => cases z
  | cons x A => cases z
theorem LkA.keepS {H H' : Hp} {l sl : Addr} {A : List Addr} {R : List Rw} (h : LkA H l A R) (s : StL H sl) (f : Fr [sl] H H') : LkA H' l A R :=
  ⟨f.g h.l (s.neR h.l), h.len, fun i a r h1 h2 => let ⟨o, e1, e2⟩ := h.it i a r h1 h2; ⟨o, f.g e1 (s.ne e1 (by intro i v z; cases z)), f.g e2 (s.neS e2)⟩⟩
theorem Fr.inF {F : List Addr} {H0 H H1 : Hp} {q : Addr} (f : Fr F H0 H) (g : Fr [q] H H1) (hq : H0 q = Option.none) : Fr F H0 H1 := fun b o e n => g b o (f b o e n) (nin (ne_of_none e hq))
structure KSt (H : Hp) (sl kl : Addr) (HB : Hp) (A : List Addr) (R : List Rw) : Prop where
  s : StL H sl
  f : Fr [sl] HB H
  k : LkA H kl A R
theorem KSt.keep {H H' : Hp} {sl kl : Addr} {HB : Hp} {A : List Addr} {R : List Rw} (h : KSt H sl kl HB A R) (f : Fr [] H H') : KSt H' sl kl HB A R := ⟨h.s.keep f, h.f.trans (f.mono (by simp)), h.k.keep f⟩
theorem KSt.drawn {H H' : Hp} {sl kl : Addr} {HB : Hp} {A : List Addr} {R : List Rw} (h : KSt H sl kl HB A R) (f : Fr [sl] H H') (s : StL H' sl) : KSt H' sl kl HB A R := ⟨s, h.f.trans f, h.k.keepS h.s f⟩
theorem KSt.strs {H : Hp} {sl kl : Addr} {HB : Hp} {A : List Addr} {R : List Rw} (h : KSt H sl kl HB A R) (hB : StL HB sl) {a : Addr} {o : List Str} (e : HB a = some (.lst (o.map V.str))) : H a = some (.lst (o.map V.str)) := h.f.g e (hB.neS e)
theorem KSt.snoc {H H' : Hp} {sl kl t ow : Addr} {HB : Hp} {A : List Addr} {R : List Rw} {r : Rw} (h : KSt H sl kl HB A R) (hk : HB kl = none) (ht : H t = some (.tup [.str r.nm, .str r.ab, .ref ow])) (ho : H ow = some (.lst (r.own.map V.str))) (n : ow ≠ kl) (f : Fr [kl] H H') (e : H' kl = some (.lst (A.map V.ref ++ [.ref t]))) : KSt H' sl kl HB (A ++ [t]) (R ++ [r]) := by
  have nsk : sl ≠ kl := fun z => by
    have := h.s.neR h.k.l
    rw [z] at this
    exact this (by simp)
  refine ⟨let ⟨i, v, h0, h1⟩ := h.s; ⟨i, v, h0, f.g h1 (nin nsk)⟩, h.f.inF f hk, by rw [List.map_append]; exact e, by rw [List.length_append, List.length_append, h.k.len]; rfl, fun j y r' g1 g2 => ?_⟩
  have kt : ∀ (x : Addr) (ys : List V), H x = some (.tup ys) → H' x = some (.tup ys) := fun x ys z => f.g z (nin (ne_of z h.k.l (by intro z; cases z)))
  by_cases hj : j < A.length
  · rw [List.getElem?_append_left hj] at g1
    rw [List.getElem?_append_left (by rw [← h.k.len]; exact hj)] at g2
    obtain ⟨oo, z1, z2⟩ := h.k.it j y r' g1 g2
    refine ⟨oo, kt _ _ z1, f.g z2 (nin (ne_of z2 h.k.l fun z => ?_))⟩
    have z3 := HO.lst.inj z
    cases hA : A with
    | nil => rw [hA] at hj; simp at hj
    | cons x A =>
      rw [hA] at z3
      cases ho' : r'.own with
      | nil => rw [ho'] at z3; cases z3
      | cons y o => rw [ho'] at z3; cases z3
  · have hj2 : j = A.length := by
      have := (List.getElem?_eq_some_iff.mp g1).1
      rw [List.length_append] at this
      simp only [List.length_cons, List.length_nil] at this
      omega
    rw [List.getElem?_append_right (by omega), hj2, Nat.sub_self] at g1
    rw [List.getElem?_append_right (by rw [← h.k.len]; omega), ← h.k.len, hj2, Nat.sub_self] at g2
    cases g1
    cases g2
    exact ⟨ow, kt _ _ ht, f.g ho (nin n)⟩
theorem StL.nn {H H' : Hp} {sl b : Addr} (h : StL H' sl) (f : Fr [sl] H H') (e : H' b = none) : H b = none := f.noneF e (nin fun z => by
  obtain ⟨i, v, _, h1⟩ := h
  rw [z, h1] at e; cases e)
theorem KSt.draw {K : PySem.W.Frag} {H : Hp} {sl sc kl : Addr} {HB : Hp} {ns : List Int} {A : List Addr} {R : List Rw} (h : KSt H sl kl HB A R) (hsc : ScK K HB sl sc ns) (hl : ns.length ≤ 63) {m : Nat} {x : Int} (hx : x = (m : Int)) (h0 : 0 < m) (h1 : m ≤ 1000) {Q : VK} {E : XK}
    (k : ∀ (d : Nat) H', d < m → KSt H' sl kl HB A R → Fr [sl] H H' → Q (.int (d : Int)) H') : sp_draw K ([.ref sl, .ref sc, .int x] ++ []) H Q E := by
  subst hx
  obtain ⟨i0, v0, hv0, es0⟩ := h.s
  exact ⟨sl, sc, ns, i0, v0, m, rfl, es0, hsc.on h.f, hl, hv0, h0, h1, fun d i' v' H4 hd hv' f4 e4 n4 => k d H4 hd (h.drawn f4 ⟨_, _, hv', e4⟩) f4⟩
/-- the classes drawn -/
structure Ini (R : List Rw) : Prop where
  nm : nms R = N5.take R.length
  le : R.length ≤ 5
  own : ∀ r ∈ R, r.own.length ≤ 3 ∧ (∀ z ∈ r.own, z ∈ F8) ∧ r.own.Nodup
  ab : ∀ r ∈ R, r.ab = OBJ ∨ r.ab ∈ nms R
  up : ∀ r ∈ R, ∃ c, Cn R r.nm c ∧ c.length ≤ R.length ∧ (cfl c).Nodup
theorem n5_nd : N5.Nodup := by decide
theorem n5_nk : ∀ n ∈ N5, n ∉ KERN := by decide
theorem Ini.gd {R : List Rw} (h : Ini R) : Gd R := ⟨by rw [h.nm]; exact n5_nd.sublist (List.take_sublist _ _), fun n hn => by rw [h.nm] at hn; exact n5_nk n (List.mem_of_mem_take hn)⟩
theorem Ini.nil : Ini [] := ⟨rfl, Nat.zero_le _, by simp, by simp, by simp⟩
theorem Ini.snoc {R : List Rw} (h : Ini R) (hl : R.length < 5) {r : Rw} (hn : N5[R.length]? = some r.nm) (ha : r.ab = OBJ ∨ r.ab ∈ nms R) (ho : r.own.length ≤ 3 ∧ (∀ z ∈ r.own, z ∈ F8) ∧ r.own.Nodup)
    (hd : ∀ z ∈ r.own, z ∉ lall R 20 r.ab) : Ini (R ++ [r]) := by
  have en : nms (R ++ [r]) = nms R ++ [r.nm] := by unfold nms; rw [List.map_append]; rfl
  have mono : ∀ x ∈ R, x ∈ R ++ [r] := fun x hx => List.mem_append_left _ hx
  refine ⟨?_, by rw [List.length_append]; exact hl, fun x hx => ?_, fun x hx => ?_, fun x hx => ?_⟩
  · rw [en, h.nm, List.length_append]
    show _ = N5.take (R.length + 1)
    rw [List.take_succ, hn]
    rfl
  · rcases List.mem_append.mp hx with hx | hx
    · exact h.own x hx
    · rw [List.mem_singleton] at hx
      rw [hx]; exact ho
  · rw [en]
    rcases List.mem_append.mp hx with hx | hx
    · exact (h.ab x hx).imp id fun z => List.mem_append_left _ z
    · rw [List.mem_singleton] at hx
      rw [hx]
      exact ha.imp id fun z => List.mem_append_left _ z
  · rw [List.length_append]
    rcases List.mem_append.mp hx with hx | hx
    · obtain ⟨c, h1, h2, h3⟩ := h.up x hx
      exact ⟨c, h1.mono mono, Nat.le_succ_of_le h2, h3⟩
    · rw [List.mem_singleton] at hx
      subst hx
      obtain ⟨c, h1, h2, h3⟩ : ∃ c, Cn R x.ab c ∧ c.length ≤ R.length ∧ (cfl c).Nodup := by
        rcases ha with e | e
        · rw [e]; exact ⟨[], .obj, Nat.zero_le _, List.nodup_nil⟩
        · obtain ⟨y, hy, e⟩ := List.mem_map.mp e
          rw [← e]; exact h.up y hy
      refine ⟨x :: c, .row (List.mem_append_right _ (List.mem_singleton.mpr rfl)) (h1.mono mono), by simp only [List.length_cons, List.length_nil]; omega, ?_⟩
      rw [h1.lall h.gd 20 (by omega)] at hd
      show (cfl c ++ x.own).Nodup
      exact List.nodup_append.mpr ⟨h3, ho.2.2, fun a ha b hb e => hd b hb (by rw [← e]; exact ha)⟩
section
variable {P : Program} {w : World} {K : PySem.W.Frag} {mg : Str → Option Value} {base : Heap}
def sp_kinds (K : PySem.W.Frag) : Sp := fun vs H Q _ => ∃ (sl sc : Addr) (ns : List Int), vs = [.ref sl, .ref sc] ∧ StL H sl ∧ ScK K H sl sc ns ∧ ns.length ≤ 63 ∧
  ∀ H' q A R, Fr [sl] H H' → StL H' sl → LkA H' q A R → Ini R → 0 < R.length → Q (.ref q) H'
theorem ok__law_kinds (W : Wd P K mg) : FnOk P w K mg base CX0 2 W.f__law_kinds W.fd__law_kinds ["_law_state", "_law_script"] (sp_kinds K) := by
  refine W.F__law_kinds.ok sc__law_kinds (fun vs H Q E h => by obtain ⟨sl, sc, ns, rfl, hs, hsc, hns, k⟩ := h; rfl) (fun cdv A outer s H vs Q E hr h => ?_)
  obtain ⟨sl, sc, ns, rfl, hs, hsc, hns, k⟩ := h
  have hu1 := hu_of hr
  have hu64 := hu64_of hr
  refine ⟨_, (pss_cons (ps_set (i := 2) sc__law_kinds.nd rfl (by first | exact Or.inl rfl | exact Or.inr rfl) (pe_lst (pa_cons (pe_strT (show (PySem.Str.ofString "A") = T [65] by decide +kernel)) (pa_cons (pe_strT (show (PySem.Str.ofString "Bo") = T [66, 111] by decide +kernel)) (pa_cons (pe_strT (show (PySem.Str.ofString "C9") = T [67, 57] by decide +kernel)) (pa_cons (pe_strT (show (PySem.Str.ofString "Dd") = T [68, 100] by decide +kernel)) (pa_cons (pe_strT (show (PySem.Str.ofString "E") = T [69] by decide +kernel)) pa_nil)))))))
      (pss_cons (ps_set (i := 3) sc__law_kinds.nd rfl (by first | exact Or.inl rfl | exact Or.inr rfl) (pe_lst (pa_cons (pe_strT (show (PySem.Str.ofString "x") = T [120] by decide +kernel)) (pa_cons (pe_strT (show (PySem.Str.ofString "y") = T [121] by decide +kernel)) (pa_cons (pe_strT (show (PySem.Str.ofString "z") = T [122] by decide +kernel)) (pa_cons (pe_strT (show (PySem.Str.ofString "w") = T [119] by decide +kernel)) (pa_cons (pe_strT (show (PySem.Str.ofString "long1") = T [108, 111, 110, 103, 49] by decide +kernel)) (pa_cons (pe_strT (show (PySem.Str.ofString "v") = T [118] by decide +kernel)) (pa_cons (pe_strT (show (PySem.Str.ofString "u") = T [117] by decide +kernel)) (pa_cons (pe_strT (show (PySem.Str.ofString "t") = T [116] by decide +kernel)) pa_nil))))))))))
      (pss_cons (ps_set (i := 4) sc__law_kinds.nd rfl (by first | exact Or.inl rfl | exact Or.inr rfl) (pe_lst pa_nil))
      (pss_cons (ps_for PassesOwn.never rfl (pi_range1 (by rfl) W.n_range (pa_cons (pe_op op_addU pe_int (pe_call (ok__law_draw W) (hr.mono (by decide)) rfl W.g__law_draw W.F__law_draw.kp W.b__law_draw .nil pass0 (pa_cons (pv 0) (pa_cons (pv 1) (pa_cons pe_int pa_nil))))) pa_nil)) (pg_name (i := 5) sc__law_kinds.nd rfl (by first | exact Or.inl rfl | exact Or.inr rfl)) (pss_cons (ps_set (i := 6) sc__law_kinds.nd rfl (by first | exact Or.inl rfl | exact Or.inr rfl) (pe_strT (show (PySem.Str.ofString "Object") = T [79, 98, 106, 101, 99, 116] by decide +kernel)))
      (Evl.pss_cut (ps_if (PW.pt (pw_and (pt_cmpR op_gtU (pv 5) pe_int (by first | exact nomark _ | rfl)) (pw_and1 (pt_cmpR op_gtU (pe_call (ok__law_draw W) (hr.mono (by decide)) rfl W.g__law_draw W.F__law_draw.kp W.b__law_draw .nil pass0 (pa_cons (pv 0) (pa_cons (pv 1) (pa_cons pe_int pa_nil)))) pe_int (by first | exact nomark _ | rfl))))) (pss_one (ps_set (i := 6) sc__law_kinds.nd rfl (by first | exact Or.inl rfl | exact Or.inr rfl) (pe_ix (ix_U hu1) (pe_ix (ix_U hu1) (pv 4) (pe_call (ok__law_draw W) (hr.mono (by decide)) rfl W.g__law_draw W.F__law_draw.kp W.b__law_draw .nil pass0 (pa_cons (pv 0) (pa_cons (pv 1) (pa_cons (pv 5) pa_nil)))) (fun _ _ => rfl)) pe_int (fun _ _ => rfl)))) pss_nil)
      (pss_cons (ps_set (i := 7) sc__law_kinds.nd rfl (by first | exact Or.inl rfl | exact Or.inr rfl) (pe_call (ok__law_all W) (hr.mono (by decide)) rfl W.g__law_all W.F__law_all.kp W.b__law_all .nil pass0 (pa_cons (pv 4) (pa_cons (pv 6) pa_nil))))
      (pss_cons (ps_set (i := 8) sc__law_kinds.nd rfl (by first | exact Or.inl rfl | exact Or.inr rfl) (pe_lst pa_nil))
      (pss_cons (ps_for PassesOwn.never rfl (pi_range1 (by rfl) W.n_range (pa_cons (pe_call (ok__law_draw W) (hr.mono (by decide)) rfl W.g__law_draw W.F__law_draw.kp W.b__law_draw .nil pass0 (pa_cons (pv 0) (pa_cons (pv 1) (pa_cons pe_int pa_nil)))) pa_nil)) (pg_name (i := 9) sc__law_kinds.nd rfl (by first | exact Or.inl rfl | exact Or.inr rfl)) (pss_cons (ps_set (i := 10) sc__law_kinds.nd rfl (by first | exact Or.inl rfl | exact Or.inr rfl) (pe_ix (ix_U hu1) (pv 3) (pe_call (ok__law_draw W) (hr.mono (by decide)) rfl W.g__law_draw W.F__law_draw.kp W.b__law_draw .nil pass0 (pa_cons (pv 0) (pa_cons (pv 1) (pa_cons pe_int pa_nil)))) (fun _ _ => rfl)))
      (pss_one (ps_if (PW.pt (pw_and (pt_cmpR (op_ninU hu1) (pv 10) (pv 8) (by first | exact nomark _ | rfl)) (pw_and1 (pt_cmpR (op_ninU hu1) (pv 10) (pv 7) (by first | exact nomark _ | rfl))))) (pss_one (ps_expr (pe_bm PySem.F.plainAttrs_list PySem.F.slot_list_append PySem.F.type_list_append mt_append (pv 8) (pa_cons (pv 10) pa_nil)))) pss_nil))))
      (pss_one (ps_expr (pe_bm PySem.F.plainAttrs_list PySem.F.slot_list_append PySem.F.type_list_append mt_append (pv 4) (pa_cons (pe_tup (pa_cons (pe_ix (ix_U hu1) (pv 2) (pv 5) (fun _ _ => rfl)) (pa_cons (pv 6) (pa_cons (pv 8) pa_nil)))) pa_nil))))))))))
      (pss_one (ps_ret (pv 4))))))), ?_⟩
  refine z_start (σ := [some _, some _, none, none, none, none, none, none, none, none, none]) rfl ?_
  one_sign
  refine z_newL (by show 5 ≤ sizeLine; decide) fun nl H1 hnl f1 e1 => ?_
  one_sign
  refine z_newL (by show 8 ≤ sizeLine; decide) fun fl H2 hfl f2 e2 => ?_
  one_sign
  refine z_newL (by show 0 ≤ sizeLine; decide) fun kl H3 hkl f3 e3 => ?_
  have s2 : StL H2 sl := hs.keep (f1.trans f2)
  have hsc2 := hsc.on ((f1.trans f2).mono (show ∀ b, b ∈ [] → b ∈ [sl] by simp))
  have nl2 := f2.g0 e1
  have S3 : KSt H3 sl kl H2 [] [] := ⟨s2.keep f3, f3.mono (by simp), ⟨e3, rfl, fun i a r h _ => by cases h⟩⟩
  have F2 : Fr [] H H2 := f1.trans f2
  clear f1 f2 f3 e1 e3
  one_sign
  refine S3.draw hsc2 hns (m := 5) rfl (by decide) (by decide) fun d H4 hd S4 f4 => ?_
  one_sign
  refine z_rng1 (1 + d) (by omega) (by omega) ?_
  refine for_range (lo := 0) (n := 1 + d) (fun i σ H' => ∃ (v5 v6 v7 v8 v9 v10 : Option V) (A : List Addr) (R : List Rw), σ = [some (.ref sl), some (.ref sc), some (.ref nl), some (.ref fl), some (.ref kl), v5, v6, v7, v8, v9, v10] ∧ KSt H' sl kl H2 A R ∧ Ini R ∧ R.length = i)
    ⟨_, _, _, _, _, _, [], [], rfl, S4, Ini.nil, rfl⟩ (fun i σ H5 hi hI => ?_) (fun σ H5 hI => ?_)
  · obtain ⟨v5, v6, v7, v8, v9, v10, A, R, rfl, S5, hIni, hRi⟩ := hI
    one_sign
    refine ⟨fun σ H' => ∃ ab : Str, σ = [some (.ref sl), some (.ref sc), some (.ref nl), some (.ref fl), some (.ref kl), some (.int (0 + (i : Int))), some (.str ab), v7, v8, v9, v10] ∧ KSt H' sl kl H2 A R ∧ (ab = OBJ ∨ ab ∈ nms R), ?_, fun σ H6 hM => ?_⟩
    · one_sign
      refine iteD (fun hi0 => ?_) (fun hi0 => ?_)
      · one_sign
        refine S5.draw hsc2 hns (m := 3) rfl (by decide) (by decide) fun d2 H6 hd2 S6 f6 => ?_
        one_sign
        refine iteD (fun hz => ?_) (fun hz => ?_)
        · one_sign
          refine S6.draw hsc2 hns (m := i) (by omega) (by have : (0 : Int) < 0 + (i : Int) := hi0; omega) (by omega) fun j H7 hj S7 f7 => ?_
          obtain ⟨ad, had⟩ : ∃ ad, A[j]? = some ad := ⟨_, List.getElem?_eq_getElem (by rw [S7.k.len]; omega)⟩
          obtain ⟨r, hr'⟩ := S7.k.len' had
          obtain ⟨oo, a1, a2⟩ := S7.k.it j ad r had hr'
          refine z_ixL S7.k.l (atI_nat (by rw [List.getElem?_map, had]; rfl)) ?_
          one_sign
          refine z_ixT a1 (atI_nat (j := 0) rfl) ?_
          one_sign
          exact ⟨r.nm, rfl, S7, Or.inr (List.mem_map_of_mem (List.mem_of_getElem? hr'))⟩
        · one_sign
          exact ⟨OBJ, rfl, S6, Or.inl rfl⟩
      · one_sign
        exact ⟨OBJ, rfl, S5, Or.inl rfl⟩
    obtain ⟨ab, rfl, S6, hab⟩ := hM
    have hown : ∀ r ∈ R, r.own.length ≤ 40 := fun r hr => by have := (hIni.own r hr).1; omega
    one_sign
    refine ⟨kl, A, R, ab, rfl, S6.k, hown, fun H7 tk f7 htk e7 => ?_⟩
    have S7 := S6.keep f7
    one_sign
    refine z_newL (by show 0 ≤ sizeLine; decide) fun ow H8 how f8 e8 => ?_
    have S8 := S7.keep f8
    have tk8 := f8.g0 e7
    one_sign
    refine S8.draw hsc2 hns (m := 4) rfl (by decide) (by decide) fun d4 H9 hd4 S9 f9 => ?_
    have tk9 := f9.g tk8 (S8.s.neS tk8)
    have ow9 := f9.g e8 (S8.s.neS (o := []) e8)
    have nkw : kl ≠ ow := ne_of_none S7.k.l how
    have f79 : Fr [sl] H7 H9 := (f8.mono (by simp)).trans f9
    generalize hL : lall R 20 ab = L at *
    one_sign
    refine z_rng1 d4 rfl (by omega) ?_
    refine for_range (lo := 0) (n := d4) (fun j σ H' => ∃ (v9 v10 : Option V) (o : List Str), σ = [some (.ref sl), some (.ref sc), some (.ref nl), some (.ref fl), some (.ref kl), some (.int (0 + (i : Int))), some (.str ab), some (.ref tk), some (.ref ow), v9, v10] ∧ StL H' sl ∧ Fr [sl] H7 H' ∧ H' ow = some (.lst (o.map V.str)) ∧ o.length ≤ j ∧ (∀ z ∈ o, z ∈ F8) ∧ o.Nodup ∧ (∀ z ∈ o, z ∉ L))
      ⟨_, _, [], rfl, S9.s, f79, ow9, Nat.le_refl _, by simp, List.nodup_nil, by simp⟩ (fun j σ H10 hj hJ => ?_) (fun σ H10 hJ => ?_)
    · obtain ⟨v9, v10, o, rfl, s10, f10, ow10, hol, hoF, hon, hod⟩ := hJ
      have S10 := S7.drawn f10 s10
      one_sign
      refine S10.draw hsc2 hns (m := 8) rfl (by decide) (by decide) fun d8 H11 hd8 S11 f11 => ?_
      have f711 := f10.trans f11
      have tk11 := f711.g e7 (S7.s.neS e7)
      have ow11 := f11.g ow10 (s10.neS ow10)
      have fl11 := S11.strs s2 (o := F8) e2
      obtain ⟨z, hz⟩ : ∃ z, F8[d8]? = some z := ⟨_, List.getElem?_eq_getElem hd8⟩
      refine z_ixL fl11 (atI_nat (by rw [List.getElem?_map, hz]; rfl)) ?_
      one_sign
      refine z_inLN ow11 rfl (flatS _) ?_
      rw [inVS]
      one_sign
      refine iteND (fun hm => ?_) (fun hm => ?_)
      · one_sign
        refine z_inLN tk11 rfl (flatS _) ?_
        rw [inVS]
        one_sign
        refine iteND (fun hm2 => ?_) (fun hm2 => ?_)
        · one_sign
          refine z_append ow11 (by rw [List.length_map, sizeLine_eq]; omega) fun H12 f12 e12 n12 => ?_
          one_sign
          have nsl : sl ≠ ow := fun e => by
            have := S11.s.neS ow11
            rw [e] at this
            exact this (by simp)
          refine ⟨_, _, o ++ [z], rfl, let ⟨i, v, h0, h1⟩ := S11.s; ⟨i, v, h0, f12.g h1 (nin nsl)⟩, f711.inF f12 how, by rw [List.map_append]; exact e12, by rw [List.length_append]; show o.length + 1 ≤ _; omega, fun y hy => ?_, nodup_snoc.mpr ⟨hon, hm⟩, fun y hy => ?_⟩
          · rcases List.mem_append.mp hy with hy | hy
            · exact hoF y hy
            · rw [List.mem_singleton] at hy
              rw [hy]; exact List.mem_of_getElem? hz
          · rcases List.mem_append.mp hy with hy | hy
            · exact hod y hy
            · rw [List.mem_singleton] at hy
              rw [hy]; exact hm2
        · one_sign
          exact ⟨_, _, o, rfl, S11.s, f711, ow11, by omega, hoF, hon, hod⟩
      · one_sign
        exact ⟨_, _, o, rfl, S11.s, f711, ow11, by omega, hoF, hon, hod⟩
    · obtain ⟨v9, v10, o, rfl, s10, f10, ow10, hol, hoF, hon, hod⟩ := hJ
      have S10 := S7.drawn f10 s10
      have hi5 : i < 5 := by omega
      have kl10 := S10.k.l
      have nl10 := S10.strs s2 (o := N5) nl2
      obtain ⟨z, hz⟩ : ∃ z, N5[i]? = some z := ⟨_, List.getElem?_eq_getElem hi5⟩
      one_sign
      refine z_ixL nl10 (by rw [Int.zero_add]; exact atI_nat (by rw [List.getElem?_map, hz]; rfl)) ?_
      one_sign
      refine z_newL (by show 3 ≤ sizeLine; decide) fun t H11 ht f11 e11 => ?_
      have S11 := S10.keep f11
      one_sign
      refine z_append S11.k.l (by rw [List.length_map, S11.k.len, sizeLine_eq]; omega) fun H12 f12 e12 n12 => ?_
      one_sign
      refine ⟨_, _, _, _, _, _, A ++ [t], R ++ [⟨z, ab, o⟩], rfl, S11.snoc (r := ⟨z, ab, o⟩) hkl e11 (f11.g0 ow10) nkw.symm f12 e12, hIni.snoc (by omega) (by rw [hRi]; exact hz) hab ⟨by show o.length ≤ 3; omega, hoF, hon⟩ (by rw [hL]; exact hod), by rw [List.length_append, hRi]; rfl⟩
  · obtain ⟨v5, v6, v7, v8, v9, v10, A, R, rfl, S5, hIni, hRi⟩ := hI
    one_sign
    exact k H5 kl A R ((F2.mono (by simp)).trans S5.f) S5.s S5.k hIni (by omega)
end

end LX
namespace LX
open PySem PySem.Spec PyProof.Rows L2 NdefX
theorem nm_inj {R : List Rw} (nd : (nms R).Nodup) {r x : Rw} (h1 : r ∈ R) (h2 : x ∈ R) (e : r.nm = x.nm) : r = x := by
  have a1 := lk_row nd h1
  obtain ⟨i, hi⟩ := List.getElem?_of_mem h1
  obtain ⟨j, hj⟩ := List.getElem?_of_mem h2
  have : i = j := (List.getElem?_inj (l := nms R) (by unfold nms; rw [List.length_map]; exact (List.getElem?_eq_some_iff.mp hi).1) nd).mp (by unfold nms; rw [List.getElem?_map, List.getElem?_map, hi, hj]; show some r.nm = some x.nm; rw [e])
  subst this
  rw [hi] at hj
  exact Option.some.inj hj
theorem Cn.uniq {R : List Rw} (g : Gd R) {m : Str} {c : List Rw} (h : Cn R m c) : ∀ {c' : List Rw}, Cn R m c' → c = c' := by
  have key : ∀ (m : Str) (c c' : List Rw), Cn R m c → ∀ m', Cn R m' c' → m = m' → c = c' := by
    intro m c c' h
    induction h generalizing c' with
    | obj =>
      intro m' h' e
      cases h' with
      | obj => rfl
      | @row r' _ hr' _ => exact absurd (by rw [e]; exact List.mem_map_of_mem hr') (obj_no g)
    | @row r c hr _ ih =>
      intro m' h' e
      cases h' with
      | obj => exact absurd (by rw [← e]; exact List.mem_map_of_mem hr) (obj_no g)
      | @row r' c2 hr' h2 =>
        obtain rfl := nm_inj g.nd hr hr' e
        rw [ih _ _ h2 rfl]
  exact fun {c'} h' => key m c c' h m h' rfl
theorem Cn.part {R : List Rw} {n m : Str} {c : List Rw} (h : Cn R m c) (hn : n ∈ nms c) : ∃ c', Cn R n c' ∧ c'.length ≤ c.length := by
  induction h with
  | obj => cases hn
  | @row r c hr hc ih =>
    rcases List.mem_cons.mp (show n ∈ r.nm :: nms c from hn) with e | e
    · exact ⟨r :: c, by rw [e]; exact .row hr hc, Nat.le_refl _⟩
    · obtain ⟨c', h1, h2⟩ := ih e
      exact ⟨c', h1, Nat.le_succ_of_le h2⟩
theorem Cn.out {R : List Rw} (g : Gd R) {r : Rw} (hr : r ∈ R) {c : List Rw} (h : Cn R r.ab c) : r.nm ∉ nms c := fun hn => by
  obtain ⟨c', h1, h2⟩ := h.part hn
  have := Cn.uniq g (Cn.row hr h) h1
  rw [← this] at h2
  simp only [List.length_cons] at h2
  omega
theorem Cn.bhN {R : List Rw} (g : Gd R) {n a : Str} {o : List Str} {m : Str} {c : List Rw} (h : Cn R m c) (hn : n ∈ nms c) : ∀ {c' : List Rw}, Cn (LX.bh R n a o) m c' → n ∈ nms c' := by
  have key : ∀ (m' : Str) (c' : List Rw), Cn (LX.bh R n a o) m' c' → m' = m → n ∈ nms c' := by
    induction h with
    | obj => cases hn
    | @row r c hr hc ih =>
      intro m' c' h' e
      cases h' with
      | obj => exact absurd (by rw [e]; exact List.mem_map_of_mem hr) (obj_no g)
      | @row r' c2 hr' h2 =>
        by_cases en : r.nm = n
        · show n ∈ r'.nm :: nms c2
          rw [e, en]
          exact List.mem_cons_self
        · have hm := bh_mem (a := a) (o := o) hr en
          obtain rfl := nm_inj (g.bh n a o).nd hr' hm e
          refine List.mem_cons_of_mem _ (ih ?_ _ _ h2 rfl)
          exact (List.mem_cons.mp (show n ∈ r'.nm :: nms c from hn)).resolve_left fun z => en z.symm
  exact fun {c'} h' => key m c' h' rfl
theorem bh_back {R : List Rw} (nd : (nms R).Nodup) {r : Rw} (hr : r ∈ R) (a : Str) (o : List Str) : bh (bh R r.nm a o) r.nm r.ab r.own = R := by
  unfold bh
  rw [List.map_map]
  refine (List.map_congr_left fun x hx => ?_).trans (List.map_id _)
  show (if (if x.nm = r.nm then (⟨r.nm, a, o⟩ : Rw) else x).nm = r.nm then (⟨r.nm, r.ab, r.own⟩ : Rw) else (if x.nm = r.nm then ⟨r.nm, a, o⟩ else x)) = x
  by_cases e : x.nm = r.nm
  · rw [if_pos e, if_pos rfl, nm_inj nd hx hr e]
  · rw [if_neg e, if_neg e]
theorem fldW_ok : ∀ (l s : List Str), (∀ z ∈ l, gdS z = true) → (s ++ l).Nodup → fldW s l = T []
  | [], _, _, _ => rfl
  | z :: l, s, h, hn => by
    unfold fldW
    have hz : z ∉ s := fun m => (List.nodup_append.mp hn).2.2 z m z List.mem_cons_self rfl
    rw [if_pos (h z List.mem_cons_self), if_neg hz]
    exact fldW_ok l _ (fun y hy => h y (List.mem_cons_of_mem _ hy)) (by rw [List.append_assoc]; exact hn)
theorem clsW_ok {R R2 : List Rw} {n : Str} : ∀ (L : List Rw), (∀ r ∈ L, (lall R2 20 r.nm).Nodup ∧ (lall R2 20 r.nm).length ≤ 32) → clsW R R2 n L = T []
  | [], _ => rfl
  | r :: L, h => by
    have h0 := h r List.mem_cons_self
    have ih := clsW_ok (R := R) (n := n) L fun x hx => h x (List.mem_cons_of_mem _ hx)
    unfold clsW
    by_cases hL : lund R 20 r.nm n = true
    · rw [if_pos hL, if_pos h0.1, if_neg (by omega), ih]
    · rw [if_neg hL, ih]
theorem f8_gd : ∀ z ∈ F8, gdS z = true := by decide
theorem Ini.wf {R : List Rw} (h : Ini R) : Wf R 5 := fun r hr => let ⟨c, h1, h2, _⟩ := h.up r hr; ⟨c, h1, Nat.le_trans h2 h.le⟩
theorem Ini.all {R : List Rw} (h : Ini R) {r : Rw} (hr : r ∈ R) : (lall R 20 r.nm).Nodup ∧ (lall R 20 r.nm).length ≤ 32 := by
  obtain ⟨c, h1, h2, h3⟩ := h.up r hr
  have := h.le
  rw [h1.lall h.gd 20 (by omega)]
  have h4 := cfl_len (c := c) (b := 3) fun x hx => (h.own x (h1.sub x hx)).1
  exact ⟨h3, by omega⟩
def swp (c : Ch) : Ch := ⟨c.nm, c.new, c.old⟩
theorem back_ok {R : List Rw} (h : Ini R) {r : Rw} (hr : r ∈ R) {a : Str} {o : List Str} (hw : why1 R r.nm a = T []) :
    why (bh R r.nm a o) r.nm r.ab r.own = T [] ∧ chs (bh R r.nm a o) R r.nm (bh R r.nm a o) = (chs R (bh R r.nm a o) r.nm R).map swp := by
  have g := h.gd
  have g2 := g.bh r.nm a o
  have hnK := g.nk _ (List.mem_map_of_mem hr)
  have hb := bh_back g.nd hr a o
  have wf2 := wf_bh (o := o) (show 5 ≤ 20 by decide) g h.wf hw
  have eq1 : ∀ x ∈ R, lund (bh R r.nm a o) 20 x.nm r.nm = lund R 20 x.nm r.nm := fun x hx => by
    obtain ⟨c, h1, h2⟩ := h.wf x hx
    have hx2 : x.nm ∈ nms (bh R r.nm a o) := by rw [bh_nms]; exact List.mem_map_of_mem hx
    obtain ⟨y, hy, ey⟩ := List.mem_map.mp hx2
    obtain ⟨c', h1', h2'⟩ := wf2 y hy
    rw [ey] at h1'
    rw [h1.lund g _ 20 (by omega), h1'.lund g2 _ 20 (by omega), und_iff g (n := r.nm) hnK, und_iff g2 (n := r.nm) hnK]
    refine decide_eq_decide.mpr ⟨fun z => ?_, fun z => h1.bhN g z h1'⟩
    refine Classical.byContradiction fun z2 => ?_
    have := Cn.uniq g2 (h1.bh0 z2) h1'
    rw [← this] at z
    exact z2 z
  constructor
  · have hab := h.ab r hr
    obtain ⟨c, hc, hcl⟩ := up_of h.wf hab
    have hno := hc.out g hr
    have w1 : why1 (bh R r.nm a o) r.nm r.ab = T [] := by
      unfold why1
      rw [if_neg hnK, bh_nms, if_neg (fun z => z (List.mem_map_of_mem hr)), if_neg (fun z => hab.elim z.1 z.2), if_neg fun z => ?_]
      have := z.2
      rw [(hc.bh0 hno).lund g2 _ 20 (by omega), und_iff g2 (n := r.nm) hnK, decide_eq_false hno] at this
      cases this
    have w2 : fldW [] r.own = T [] := fldW_ok _ _ (fun z hz => f8_gd z ((h.own r hr).2.1 z hz)) (by rw [List.nil_append]; exact (h.own r hr).2.2)
    unfold why
    rw [w1, w2, if_neg (fun z => z rfl), if_neg (fun z => z rfl), hb]
    refine clsW_ok _ fun x hx => ?_
    have hx2 : x.nm ∈ nms R := by rw [← bh_nms R r.nm a o]; exact List.mem_map_of_mem hx
    obtain ⟨y, hy, ey⟩ := List.mem_map.mp hx2
    rw [← ey]
    exact h.all hy
  · generalize hR2 : bh R r.nm a o = R2 at *
    unfold chs
    have e2 : R2 = R.map fun x => if x.nm = r.nm then (⟨r.nm, a, o⟩ : Rw) else x := by rw [← hR2]; rfl
    have en : ∀ x : Rw, (if x.nm = r.nm then (⟨r.nm, a, o⟩ : Rw) else x).nm = x.nm := fun x => by
      by_cases e : x.nm = r.nm
      · rw [if_pos e]; exact e.symm
      · rw [if_neg e]
    have e3 : R2.filter (fun x => lund R2 20 x.nm r.nm) = (R.filter fun x => lund R 20 x.nm r.nm).map fun x => if x.nm = r.nm then (⟨r.nm, a, o⟩ : Rw) else x := by
      conv => lhs; arg 2; rw [e2]
      rw [List.filter_map]
      congr 1
      refine List.filter_congr fun x hx => ?_
      show lund R2 20 (if x.nm = r.nm then (⟨r.nm, a, o⟩ : Rw) else x).nm r.nm = _
      rw [en, eq1 x hx]
    rw [e3, List.map_map, List.map_map]
    refine List.map_congr_left fun x _ => ?_
    show (⟨(if x.nm = r.nm then (⟨r.nm, a, o⟩ : Rw) else x).nm, _, _⟩ : Ch) = _
    rw [en]
    rfl

end LX
namespace LX
open PySem PySem.Spec PyProof.Rows L2 NdefX
def orgD (old : List Str) (z : Str) : PyData := match org old z with | some j => .int (j : Nat) | none => .none
def cD (c : Ch) : PyData := .list [.str c.nm, .tuple (c.old.map .str), .tuple (c.new.map .str), .tuple (c.new.map (orgD c.old))]
def dueD (wd : Str) (cs : List Ch) : PyData := .list [.str wd, .list (cs.map cD)]
theorem dpall_map {α : Type} {K : PySem.W.Frag} {H : Hp} {f : α → V} {g : α → PyData} : ∀ {l : List α}, (∀ x ∈ l, Dp K H (f x) (g x)) → DpAll K H (l.map f) (l.map g)
  | [], _ => .nil
  | x :: l, h => .cons (h x List.mem_cons_self) (dpall_map fun y hy => h y (List.mem_cons_of_mem _ hy))
theorem dpall_zip {α β : Type} {K : PySem.W.Frag} {H : Hp} {f : α → V} {g : β → PyData} : ∀ {l : List α} {m : List β}, l.length = m.length → (∀ (i : Nat) (x : α) (y : β), l[i]? = some x → m[i]? = some y → Dp K H (f x) (g y)) → DpAll K H (l.map f) (m.map g)
  | [], [], _, _ => .nil
  | x :: l, y :: m, e, h => .cons (h 0 x y rfl rfl) (dpall_zip (by simpa using e) fun i a b h1 h2 => h (i + 1) a b h1 h2)
  | [], _ :: _, e, _ => by cases e
  | _ :: _, [], e, _ => by cases e
theorem dp_org {K : PySem.W.Frag} {H : Hp} (old : List Str) (z : Str) : Dp K H (orgV old z) (orgD old z) := by
  unfold orgV orgD
  cases org old z with
  | none => exact .non
  | some j => exact .int _
theorem RwAt.dp {K : PySem.W.Frag} {H : Hp} {b : Addr} {c : Ch} (h : RwAt H b c) : Dp K H (.ref b) (cD c) := by
  obtain ⟨t1, t2, t3, h0, h1, h2, h3⟩ := h
  exact Dp.lst (SqL.of h0) (.cons (.str _) (.cons (.tup (SqT.of h1) (dpall_map fun z _ => .str z)) (.cons (.tup (SqT.of h2) (dpall_map fun z _ => .str z)) (.cons (.tup (SqT.of h3) (dpall_map fun z _ => dp_org _ z)) .nil))))
theorem DueAt.dp {K : PySem.W.Frag} {H : Hp} {q : Addr} {wd : Str} {cs : List Ch} (h : DueAt H q wd cs) : Dp K H (.ref q) (dueD wd cs) := by
  obtain ⟨m, B, h0, h1, h2⟩ := h
  exact Dp.lst (SqL.of h0) (.cons (.str _) (.cons (.lst (SqL.of h1) (dpall_zip h2.1 fun i b c hb hc => (h2.2 i b c hb hc).dp)) .nil))
theorem shAll {α : Type} {g : α → PyData} : ∀ {l : List α}, (∀ x ∈ l, (g x).showable = true) → PyData.showableAll (l.map g) = true
  | [], _ => rfl
  | x :: l, h => by
    show ((g x).showable && PyData.showableAll (l.map g)) = true
    rw [h x List.mem_cons_self, shAll fun y hy => h y (List.mem_cons_of_mem _ hy)]; rfl
theorem hdAll {α : Type} {g : α → PyData} : ∀ {l : List α}, (∀ x ∈ l, (g x).hasDict = false) → PyData.hasDictAll (l.map g) = false
  | [], _ => rfl
  | x :: l, h => by
    show ((g x).hasDict || PyData.hasDictAll (l.map g)) = false
    rw [h x List.mem_cons_self, hdAll fun y hy => h y (List.mem_cons_of_mem _ hy)]; rfl
theorem clAll {α : Type} {g : α → PyData} : ∀ {l : List α}, (∀ x ∈ l, (g x).canLay0 = true) → PyData.canLayAll0 (l.map g) = true
  | [], _ => rfl
  | x :: l, h => by
    show ((g x).canLay0 && PyData.canLayAll0 (l.map g)) = true
    rw [h x List.mem_cons_self, clAll fun y hy => h y (List.mem_cons_of_mem _ hy)]; rfl
theorem dpthAll {α : Type} {g : α → PyData} {n : Nat} : ∀ {l : List α}, (∀ x ∈ l, (g x).depth ≤ n) → PyData.depthAll (l.map g) ≤ n
  | [], _ => by simp [PyData.depthAll]
  | x :: l, h => by
    simp only [List.map_cons, PyData.depthAll]
    exact Nat.max_le.mpr ⟨h x List.mem_cons_self, dpthAll fun y hy => h y (List.mem_cons_of_mem _ hy)⟩
theorem wtAll {α : Type} {g : α → PyData} {b : Nat} : ∀ {l : List α}, (∀ x ∈ l, (g x).weight ≤ b) → PyData.weightAll (l.map g) ≤ l.length * (b + 1)
  | [], _ => by simp [PyData.weightAll]
  | x :: l, h => by
    have h1 := h x List.mem_cons_self
    have h2 := wtAll (g := g) (b := b) (l := l) fun y hy => h y (List.mem_cons_of_mem _ hy)
    simp only [List.map_cons, PyData.weightAll, List.length_cons, Nat.succ_mul]
    omega
theorem isAll {α : Type} {g : α → PyData} {b : Nat} : ∀ {l : List α}, (∀ x ∈ l, (g x).intsShort b = true) → PyData.intsShortAll b (l.map g) = true
  | [], _ => rfl
  | x :: l, h => by
    show ((g x).intsShort b && PyData.intsShortAll b (l.map g)) = true
    rw [h x List.mem_cons_self, isAll fun y hy => h y (List.mem_cons_of_mem _ hy)]; rfl
/-- a short text of signs -/
def Ok1 (z : Str) : Prop := PyData.canLay0 (.str z) = true ∧ z.length ≤ 50
def COk (c : Ch) : Prop := Ok1 c.nm ∧ c.old.length ≤ 400 ∧ c.new.length ≤ 400 ∧ (∀ z ∈ c.old, Ok1 z) ∧ ∀ z ∈ c.new, Ok1 z
theorem Ok1.wt {z : Str} (h : Ok1 z) : (PyData.str z).weight ≤ 50 := by
  simp only [PyData.weight]
  exact h.2
theorem log_small {j : Nat} (h : j < 1024) : j.log2 < 10 := by
  by_cases h0 : j = 0
  · subst h0; decide
  · exact (Nat.log2_lt h0).mpr (by omega)
theorem small_len (j : Nat) (h : j < 1000) : (PyData.shown (.int (j : Nat))).length ≤ 13 := by
  have : ∀ j : Fin 1000, (PyData.shown (.int ((j : Nat) : Int))).length ≤ 13 := by decide +kernel
  exact this ⟨j, h⟩
section
variable {old : List Str} (hl : old.length ≤ 400) (z : Str)
include hl
theorem org_lt {j : Nat} (h : org old z = some j) : j < 400 := by
  unfold org at h
  rw [List.findIdx?_eq_some_iff_getElem] at h
  obtain ⟨h1, _⟩ := h
  omega
theorem org_sh : (orgD old z).showable = true := by
  unfold orgD
  cases e : org old z with
  | none => rfl
  | some j =>
    have := org_lt hl z e
    simp only [PyData.showable, Int.natAbs_natCast, decide_eq_true_eq]
    exact Nat.lt_trans (log_small (by omega)) (by decide)
theorem org_is : (orgD old z).intsShort 13 = true := by
  unfold orgD
  cases e : org old z with
  | none => rfl
  | some j =>
    have := org_lt hl z e
    simp only [PyData.intsShort, decide_eq_true_eq]
    exact small_len j (by omega)
theorem org_wt : (orgD old z).weight ≤ 12 := by
  unfold orgD
  cases e : org old z with
  | none => simp [PyData.weight]
  | some j =>
    have := org_lt hl z e
    simp only [PyData.weight, Int.natAbs_natCast]
    have h2 := log_small (j := j) (by omega)
    split <;> omega
omit hl in
theorem org_hd : (orgD old z).hasDict = false := by
  unfold orgD
  cases org old z <;> rfl
omit hl in
theorem org_cl : (orgD old z).canLay0 = true := by
  unfold orgD
  cases org old z <;> rfl
omit hl in
theorem org_dp : (orgD old z).depth ≤ 1 := by
  unfold orgD
  cases org old z <;> simp [PyData.depth]
end
structure Nice (d : PyData) (n b : Nat) : Prop where
  sh : d.showable = true
  hd : d.hasDict = false
  cl : d.canLay0 = true
  dp : d.depth ≤ n
  wt : d.weight ≤ b
  ii : d.intsShort 13 = true
theorem Nice.mono {d : PyData} {n b n' b' : Nat} (h : Nice d n b) (h1 : n ≤ n') (h2 : b ≤ b') : Nice d n' b' := ⟨h.sh, h.hd, h.cl, Nat.le_trans h.dp h1, Nat.le_trans h.wt h2, h.ii⟩
theorem nice_str {z : Str} (h : Ok1 z) : Nice (.str z) 1 50 := ⟨rfl, rfl, h.1, by simp [PyData.depth], h.wt, rfl⟩
theorem nice_tup {α : Type} {g : α → PyData} {l : List α} {n b : Nat} (h : ∀ x ∈ l, Nice (g x) n b) : Nice (.tuple (l.map g)) (n + 1) (l.length * (b + 1)) :=
  ⟨by simpa [PyData.showable] using shAll fun x hx => (h x hx).sh, by simpa [PyData.hasDict] using hdAll fun x hx => (h x hx).hd, by simpa [PyData.canLay0] using clAll fun x hx => (h x hx).cl,
   by have := dpthAll fun x hx => (h x hx).dp; simp only [PyData.depth]; omega, by simpa [PyData.weight] using wtAll fun x hx => (h x hx).wt, by simpa [PyData.intsShort] using isAll fun x hx => (h x hx).ii⟩
theorem nice_lst {α : Type} {g : α → PyData} {l : List α} {n b : Nat} (h : ∀ x ∈ l, Nice (g x) n b) : Nice (.list (l.map g)) (n + 1) (l.length * (b + 1)) :=
  ⟨by simpa [PyData.showable] using shAll fun x hx => (h x hx).sh, by simpa [PyData.hasDict] using hdAll fun x hx => (h x hx).hd, by simpa [PyData.canLay0] using clAll fun x hx => (h x hx).cl,
   by have := dpthAll fun x hx => (h x hx).dp; simp only [PyData.depth]; omega, by simpa [PyData.weight] using wtAll fun x hx => (h x hx).wt, by simpa [PyData.intsShort] using isAll fun x hx => (h x hx).ii⟩
theorem nice_of {l : List PyData} {n b : Nat} (h : ∀ d ∈ l, Nice d n b) : Nice (.list l) (n + 1) (l.length * (b + 1)) := by
  have := nice_lst (g := id) (l := l) h
  rwa [List.map_id] at this
theorem nice_cD {c : Ch} (h : COk c) : Nice (cD c) 4 100000 := by
  obtain ⟨h1, h2, h3, h4, h5⟩ := h
  have n1 := nice_tup (g := PyData.str) fun z hz => nice_str (h4 z hz)
  have n2 := nice_tup (g := PyData.str) fun z hz => nice_str (h5 z hz)
  have n3 := nice_tup (g := orgD c.old) (l := c.new) (n := 1) (b := 12) fun z _ => ⟨org_sh h2 z, org_hd z, org_cl z, org_dp z, org_wt h2 z, org_is h2 z⟩
  refine (nice_of (n := 2) (b := 20400) fun d hd => ?_).mono (by decide) (by show 4 * _ ≤ _; omega)
  simp only [List.mem_cons, List.not_mem_nil, or_false] at hd
  rcases hd with e | e | e | e
  · rw [e]; exact (nice_str h1).mono (by decide) (by decide)
  · rw [e]; exact n1.mono (by decide) (by omega)
  · rw [e]; exact n2.mono (by decide) (by omega)
  · rw [e]; exact n3.mono (by decide) (by omega)
theorem nice_due {wd : Str} {cs : List Ch} (hw : Ok1 wd) (hl : cs.length ≤ 5) (h : ∀ c ∈ cs, COk c) : Nice (dueD wd cs) 6 1048576 := by
  have n1 := nice_lst (g := cD) fun c hc => nice_cD (h c hc)
  refine (nice_of (n := 5) (b := 500005) fun d hd => ?_).mono (by decide) (by show 2 * _ ≤ _; omega)
  simp only [List.mem_cons, List.not_mem_nil, or_false] at hd
  rcases hd with e | e
  · rw [e]; exact (nice_str hw).mono (by decide) (by decide)
  · rw [e]; exact n1.mono (by decide) (by omega)
theorem Nice.shown {d : PyData} {n b : Nat} (h : Nice d n b) (hn : n ≤ 60) (hb : b ≤ 1048576) : d.shown.length ≤ sizeLine := by
  have hl : PyData.layable0 d = true := by
    unfold PyData.layable0
    have := h.dp
    have := h.wt
    simp only [Bool.and_eq_true, decide_eq_true_eq]
    exact ⟨⟨h.cl, by omega⟩, by omega⟩
  have := shown_le13 hl h.ii
  rw [sizeLine_eq]
  omega
theorem Nice.shaped {d : PyData} {n b : Nat} (h : Nice d n b) (hn : n ≤ 60) : SeqAt.shaped d = true := by
  unfold SeqAt.shaped
  have := h.dp
  simp only [Bool.and_eq_true, decide_eq_true_eq]
  exact ⟨h.cl, by omega⟩
mutual
theorem eqv_self : ∀ d : PyData, d.hasDict = false → PyData.eqv d d = true
  | .none, _ => by simp [PyData.eqv]
  | .bool _, _ => by simp [PyData.eqv]
  | .int _, _ => by simp [PyData.eqv]
  | .str _, _ => by simp [PyData.eqv]
  | .list xs, h => by
    simp only [PyData.eqv]
    exact eqv_selfAll xs (by simpa [PyData.hasDict] using h)
  | .tuple xs, h => by
    simp only [PyData.eqv]
    exact eqv_selfAll xs (by simpa [PyData.hasDict] using h)
  | .dict _, h => by simp [PyData.hasDict] at h
theorem eqv_selfAll : ∀ xs : List PyData, PyData.hasDictAll xs = false → PyData.eqvAll xs xs = true
  | [], _ => by simp [PyData.eqvAll]
  | x :: xs, h => by
    have h' : x.hasDict = false ∧ PyData.hasDictAll xs = false := by simpa [PyData.hasDictAll] using h
    simp only [PyData.eqvAll, eqv_self x h'.1, eqv_selfAll xs h'.2, Bool.and_self]
end

end LX
namespace LX
open PySem PySem.Spec PyProof.Rows L2 NdefX
/-- a comprehension whose parts may change what F names -/
def LcF (H1 : Hp) (R : Addr) (F : List Addr) (Pv : Nat → List V → Hp → Prop) (i : Nat) (H' : Hp) : Prop := ∃ xs, xs.length ≤ i ∧ Pv i xs H' ∧ H' R = some (.lst xs) ∧ Fr F H1 H'
def LcG (H1 : Hp) (R : Addr) (F : List Addr) (Pv : Nat → List V → Hp → Prop) (i : Nat) (y : V) (H4 : Hp) : Prop := ∃ acc, H4 R = some (.lst acc) ∧ acc.length < sizeLine ∧ LcF H1 R F Pv i (upd H4 R (.lst (acc ++ [y])))
theorem z_lcG {H H1 : Hp} {R : Addr} {F : List Addr} {Pv : Nat → List V → Hp → Prop} {i : Nat} {y : V} {xs : List V} (hR : H1 R = none) (h1 : H R = some (.lst xs)) (f : Fr F H1 H) (hl : xs.length ≤ i) (hs : i < sizeLine) (k : ∀ H5, Fr [R] H H5 → Pv (i + 1) (xs ++ [y]) H5) : LcG H1 R F Pv (i + 1) y H :=
  ⟨xs, h1, by omega, xs ++ [y], by rw [List.length_append]; show xs.length + 1 ≤ i + 1; omega, k _ (Fr.at (by simp)), upd_same, f.skip hR⟩
theorem z_lcRF {g : TG} {tt : TT} {te : TE} {vs : List Nat} {σ : L2.St} {H1 : Hp} (F : List Addr) {lo : Int} {n : Nat} {Q : VK} (Pv : Nat → List V → Hp → Prop) (h0 : ∀ R H', H1 R = none → Fr [] H1 H' → Pv 0 [] H')
    (hs : ∀ R i xs H', H1 R = none → i < n → xs.length ≤ i → Pv i xs H' → H' R = some (.lst xs) → Fr F H1 H' → g (.int (lo + i)) (wipe σ vs) H' fun σ2 H2 => wipe σ2 vs = wipe σ vs ∧ tt σ2 H2 fun b H3 =>
      if b = true then te σ2 H3 fun y H4 => LcG H1 R F Pv (i + 1) y H4 else LcF H1 R F Pv (i + 1) H3)
    (hd : ∀ R xs H', H1 R = none → Pv n xs H' → xs.length ≤ n → H' R = some (.lst xs) → Fr F H1 H' → Q (.ref R) H') :
    oLc (Itr lo n) g tt te vs σ H1 Q := fun R hR =>
  lc_range (fun i H' => LcF H1 R F Pv i H') ⟨[], Nat.le_refl _, h0 R _ hR (Fr.new hR), upd_same, Fr.new hR⟩ (fun i H' hi ⟨xs, hl, p, hx, f⟩ => hs R i xs H' hR hi hl p hx f) (fun H' ⟨xs, hl, p, hx, f⟩ => hd R xs H' hR p hl hx f)
theorem StL.draw {K : PySem.W.Frag} {H0 H : Hp} {sl sc : Addr} {ns : List Int} (s : StL H sl) (f : Fr [sl] H0 H) (hsc : ScK K H0 sl sc ns) (hl : ns.length ≤ 63) {m : Nat} {x : Int} (hx : x = (m : Int)) (h0 : 0 < m) (h1 : m ≤ 1000) {Q : VK} {E : XK}
    (k : ∀ (d : Nat) H', d < m → StL H' sl → Fr [sl] H H' → Q (.int (d : Int)) H') : sp_draw K ([.ref sl, .ref sc, .int x] ++ []) H Q E := by
  subst hx
  obtain ⟨i0, v0, hv0, es0⟩ := s
  exact ⟨sl, sc, ns, i0, v0, m, rfl, es0, hsc.on f, hl, hv0, h0, h1, fun d i' v' H4 hd hv' f4 e4 n4 => k d H4 hd ⟨_, _, hv', e4⟩ f4⟩
def F10 : List Str := [T [120], T [121], T [122], T [119], T [108, 111, 110, 103, 49], T [118], T [117], T [116], T [110, 101, 119], T [110, 50]]
def W8 : List Str := [T [88], T [115, 101, 108, 102], T [], T [97, 32, 98], T [57, 97], T [97, 97, 97, 97, 97, 97, 97, 97, 97, 97, 97, 97, 97, 97, 97, 97, 97, 97, 97, 97, 97, 97, 97, 97, 97, 97, 97, 97, 97, 97, 97, 97, 97], T [97, 95], T [110, 105, 108]]
theorem ok1_dec {l : List Str} (h : (l.all fun z => PyData.canLay0 (.str z) && decide (z.length ≤ 50)) = true) : ∀ z ∈ l, Ok1 z := fun z hz => by
  have := List.all_eq_true.mp h z hz
  rw [Bool.and_eq_true, decide_eq_true_eq] at this
  exact this
theorem f10_ok : ∀ z ∈ F10, Ok1 z := ok1_dec (by decide +kernel)
theorem w8_ok : ∀ z ∈ W8, Ok1 z := ok1_dec (by decide +kernel)
theorem n5_ok : ∀ z ∈ N5, Ok1 z := ok1_dec (by decide +kernel)
theorem f8_ok : ∀ z ∈ F8, Ok1 z := ok1_dec (by decide +kernel)
theorem wds_ok : ∀ z ∈ [T [], wKERNEL, wNAME, wSUPER, wRING, wFIELD, wTWICE, wMANY], Ok1 z := ok1_dec (by decide +kernel)
theorem fj_ok (j : Nat) (h : j < 40) : Ok1 (T [102] ++ PySem.Str.ofString (toString ((j : Nat) : Int))) := by
  have : ∀ j : Fin 40, (PyData.canLay0 (.str (T [102] ++ PySem.Str.ofString (toString ((j : Nat) : Int)))) && decide ((T [102] ++ PySem.Str.ofString (toString ((j : Nat) : Int))).length ≤ 50)) = true := by decide +kernel
  have h2 := this ⟨j, h⟩
  rw [Bool.and_eq_true, decide_eq_true_eq] at h2
  exact h2
theorem fldW_wd : ∀ (l s : List Str), fldW s l = T [] ∨ fldW s l = wFIELD ∨ fldW s l = wTWICE
  | [], _ => Or.inl rfl
  | z :: l, s => by
    unfold fldW
    by_cases h1 : gdS z = true
    · rw [if_pos h1]
      by_cases h2 : z ∈ s
      · rw [if_pos h2]; exact Or.inr (Or.inr rfl)
      · rw [if_neg h2]; exact fldW_wd l _
    · rw [if_neg h1]; exact Or.inr (Or.inl rfl)
theorem clsW_wd (R R2 : List Rw) (n : Str) : ∀ (l : List Rw), clsW R R2 n l = T [] ∨ clsW R R2 n l = wMANY ∨ clsW R R2 n l = wTWICE
  | [] => Or.inl rfl
  | r :: l => by
    unfold clsW
    by_cases h1 : lund R 20 r.nm n = true
    · rw [if_pos h1]
      by_cases h2 : (lall R2 20 r.nm).Nodup
      · rw [if_pos h2]
        by_cases h3 : 32 < (lall R2 20 r.nm).length
        · rw [if_pos h3]; exact Or.inr (Or.inl rfl)
        · rw [if_neg h3]; exact clsW_wd R R2 n l
      · rw [if_neg h2]; exact Or.inr (Or.inr rfl)
    · rw [if_neg h1]; exact clsW_wd R R2 n l
theorem why1_wd (R : List Rw) (n a : Str) : why1 R n a ∈ [T [], wKERNEL, wNAME, wSUPER, wRING, wFIELD, wTWICE, wMANY] := by
  unfold why1
  split
  · simp
  split
  · simp
  split
  · simp
  split <;> simp
theorem why_ok (R : List Rw) (n a : Str) (o : List Str) : Ok1 (why R n a o) := by
  refine wds_ok _ ?_
  unfold why
  by_cases h1 : why1 R n a ≠ T []
  · rw [if_pos h1]; exact why1_wd R n a
  rw [if_neg h1]
  by_cases h2 : fldW [] o ≠ T []
  · rw [if_pos h2]
    rcases fldW_wd o [] with e | e | e <;> rw [e] <;> simp
  · rw [if_neg h2]
    rcases clsW_wd R (bh R n a o) n R with e | e | e <;> rw [e] <;> simp
theorem lall_mem {R : List Rw} : ∀ (k : Nat) (n : Str), ∀ z ∈ lall R k n, ∃ r ∈ R, z ∈ r.own
  | 0, _, z, h => by cases h
  | k + 1, n, z, h => by
    rcases List.mem_append.mp (show z ∈ lall R k (lk R n).1 ++ (lk R n).2 from h) with h | h
    · exact lall_mem k _ z h
    · exact lk_own n z h
theorem cs_ok {R : List Rw} (hI : Ini R) {n a : Str} {o : List Str} (ho : o.length ≤ 40) (hz : ∀ z ∈ o, Ok1 z) (hw : why1 R n a = T []) : (chs R (bh R n a o) n R).length ≤ 5 ∧ ∀ c ∈ chs R (bh R n a o) n R, COk c := by
  have g := hI.gd
  have wf2 := wf_bh (o := o) (show 5 ≤ 20 by decide) g hI.wf hw
  have hown : ∀ r ∈ R, r.own.length ≤ 40 := fun r hr => by have := (hI.own r hr).1; omega
  have hown2 := bh_own (n := n) (a := a) hown ho
  have mem2 : ∀ r ∈ bh R n a o, ∀ z ∈ r.own, Ok1 z := fun r hr z hzr => by
    obtain ⟨x, hx, rfl⟩ := List.mem_map.mp hr
    by_cases e : x.nm = n
    · rw [if_pos e] at hzr; exact hz z hzr
    · rw [if_neg e] at hzr; exact f8_ok z ((hI.own x hx).2.1 z hzr)
  unfold chs
  constructor
  · rw [List.length_map]
    have h1 := List.length_filter_le (fun r => lund R 20 r.nm n) R
    have := hI.le
    omega
  · intro c hc
    obtain ⟨r, hr, rfl⟩ := List.mem_map.mp hc
    have hr := (List.mem_filter.mp hr).1
    refine ⟨n5_ok _ ?_, ?_, ?_, fun z hz => ?_, fun z hz => ?_⟩
    · have : r.nm ∈ nms R := List.mem_map_of_mem hr
      rw [hI.nm] at this
      exact List.mem_of_mem_take this
    · have := (hI.all hr).2
      show (lall R 20 r.nm).length ≤ 400
      omega
    · have hx2 : r.nm ∈ nms (bh R n a o) := by rw [bh_nms]; exact List.mem_map_of_mem hr
      obtain ⟨y, hy, ey⟩ := List.mem_map.mp hx2
      obtain ⟨c', h1', h2'⟩ := wf2 y hy
      rw [ey] at h1'
      show (lall (bh R n a o) 20 r.nm).length ≤ 400
      rw [h1'.lall (g.bh n a o) 20 (by omega)]
      have := cfl_len (c := c') (b := 40) fun x hx => hown2 x (h1'.sub x hx)
      omega
    · obtain ⟨x, hx, hzx⟩ := lall_mem 20 _ z hz
      exact f8_ok z ((hI.own x hx).2.1 z hzx)
    · obtain ⟨x, hx, hzx⟩ := lall_mem 20 _ z hz
      exact mem2 x hx z hzx
theorem csW_ok {R : List Rw} (hI : Ini R) {n a : Str} {o : List Str} (ho : o.length ≤ 40) (hz : ∀ z ∈ o, Ok1 z) : (csW R n a o).length ≤ 5 ∧ ∀ c ∈ csW R n a o, COk c := by
  unfold csW
  by_cases h : why R n a o = T []
  · rw [if_pos h]
    refine cs_ok hI ho hz ?_
    unfold why at h
    by_cases h1 : why1 R n a ≠ T []
    · rw [if_pos h1] at h; exact absurd h h1
    · exact Classical.not_not.mp h1
  · rw [if_neg h]; exact ⟨by simp, by simp⟩
/-! rows of three: a name, two rows of names -/
abbrev T3 := Str × List Str × List Str
def R3At (H : Hp) (b : Addr) (c : T3) : Prop := ∃ t1 t2, H b = some (.lst [.str c.1, .ref t1, .ref t2]) ∧ H t1 = some (.tup (c.2.1.map V.str)) ∧ H t2 = some (.tup (c.2.2.map V.str))
def R3s (H : Hp) (B : List Addr) (cs : List T3) : Prop := B.length = cs.length ∧ ∀ (i : Nat) (b : Addr) (c : T3), B[i]? = some b → cs[i]? = some c → R3At H b c
theorem R3s.keep {H H' : Hp} {B : List Addr} {cs : List T3} (h : R3s H B cs) (f : Fr [] H H') : R3s H' B cs := ⟨h.1, fun i b c h1 h2 => let ⟨t1, t2, z0, z1, z2⟩ := h.2 i b c h1 h2; ⟨t1, t2, f.g0 z0, f.g0 z1, f.g0 z2⟩⟩
theorem R3s.not {H : Hp} {M : List Addr} {cs : List T3} {q : Addr} (h : R3s H M cs) (hq : H q = some (.lst (M.map V.ref))) (hm : q ∈ M) : False := by
  obtain ⟨i, hi⟩ := List.getElem?_of_mem hm
  obtain ⟨c, hc⟩ : ∃ c, cs[i]? = some c := ⟨_, List.getElem?_eq_getElem (by rw [← h.1]; exact (List.getElem?_eq_some_iff.mp hi).1)⟩
  obtain ⟨t1, t2, z0, _⟩ := h.2 i q c hi hc
  rw [hq] at z0
  have e := HO.lst.inj (Option.some.inj z0)
  cases M with
  | nil => cases hm
  | cons x M => cases e
/-- one row more, while the list R of the rows grows -/
theorem R3s.step {H H1 H2 : Hp} {R b : Addr} {M : List Addr} {cs : List T3} {c : T3} (h : R3s H M cs) (hX : H R = some (.lst (M.map V.ref))) (f : Fr [] H H1) (hb : H b = none) (h1 : R3At H1 b c) (g : Fr [R] H1 H2) : R3s H2 (M ++ [b]) (cs ++ [c]) := by
  have hX1 := f.g0 hX
  have kp : ∀ (x : Addr) (ys : List V), H1 x = some (.tup ys) → H2 x = some (.tup ys) := fun x ys e => g.g e (nin (ne_of e hX1 (by intro z; cases z)))
  have kb : ∀ x c, x ≠ R → R3At H1 x c → R3At H2 x c := fun x c n ⟨t1, t2, z0, z1, z2⟩ => ⟨t1, t2, g.g z0 (nin n), kp _ _ z1, kp _ _ z2⟩
  refine ⟨by rw [List.length_append, List.length_append, h.1]; rfl, fun j y c' g1 g2 => ?_⟩
  by_cases hj : j < M.length
  · rw [List.getElem?_append_left hj] at g1
    rw [List.getElem?_append_left (by rw [← h.1]; exact hj)] at g2
    exact kb _ _ (fun e => h.not hX (by rw [← e]; exact List.mem_of_getElem? g1)) ((h.keep f).2 j y c' g1 g2)
  · have hj2 : j = M.length := by
      have := (List.getElem?_eq_some_iff.mp g1).1
      rw [List.length_append] at this
      simp only [List.length_cons, List.length_nil] at this
      omega
    rw [List.getElem?_append_right (by omega), hj2, Nat.sub_self] at g1
    rw [List.getElem?_append_right (by rw [← h.1]; omega), ← h.1, hj2, Nat.sub_self] at g2
    cases g1
    cases g2
    exact kb _ _ (fun e => by rw [e, hX] at hb; cases hb) h1
def t3D (c : T3) : PyData := .list [.str c.1, .tuple (c.2.1.map .str), .tuple (c.2.2.map .str)]
theorem R3s.dp {K : PySem.W.Frag} {H : Hp} {q : Addr} {B : List Addr} {cs : List T3} (h : R3s H B cs) (hq : H q = some (.lst (B.map V.ref))) : Dp K H (.ref q) (.list (cs.map t3D)) :=
  Dp.lst (SqL.of hq) (dpall_zip h.1 fun i b c hb hc => let ⟨t1, t2, z0, z1, z2⟩ := h.2 i b c hb hc
    Dp.lst (SqL.of z0) (.cons (.str _) (.cons (.tup (SqT.of z1) (dpall_strs _)) (.cons (.tup (SqT.of z2) (dpall_strs _)) .nil))))
theorem t3_nice {c : T3} (h1 : Ok1 c.1) (h2 : ∀ z ∈ c.2.1, Ok1 z) (h3 : ∀ z ∈ c.2.2, Ok1 z) : Nice (t3D c) 3 (3 * (50 + c.2.1.length * 51 + c.2.2.length * 51 + 1)) := by
  have n1 := nice_tup (g := PyData.str) fun z hz => nice_str (h2 z hz)
  have n2 := nice_tup (g := PyData.str) fun z hz => nice_str (h3 z hz)
  refine nice_of (n := 2) (b := 50 + c.2.1.length * 51 + c.2.2.length * 51) fun d hd => ?_
  simp only [List.mem_cons, List.not_mem_nil, or_false] at hd
  rcases hd with e | e | e
  · rw [e]; exact (nice_str h1).mono (by decide) (by omega)
  · rw [e]; exact n1.mono (by decide) (by omega)
  · rw [e]; exact n2.mono (by decide) (by omega)
theorem t3s_shaped {cs : List T3} (h : ∀ c ∈ cs, Ok1 c.1 ∧ (∀ z ∈ c.2.1, Ok1 z) ∧ ∀ z ∈ c.2.2, Ok1 z) : SeqAt.shaped (.list (cs.map t3D)) = true := by
  unfold SeqAt.shaped
  rw [Bool.and_eq_true, decide_eq_true_eq]
  constructor
  · simpa [PyData.canLay0] using clAll (g := t3D) (l := cs) fun c hc => (t3_nice (h c hc).1 (h c hc).2.1 (h c hc).2.2).cl
  · have := dpthAll (g := t3D) (n := 3) (l := cs) fun c hc => (t3_nice (h c hc).1 (h c hc).2.1 (h c hc).2.2).dp
    simp only [PyData.depth]
    omega

end LX
namespace LX
open PySem PySem.Spec PyProof.Rows L2 NdefX
set_option hygiene false in
local macro_rules | `(tactic| k_memK) => `(tactic| first | exact W.na_Kind_name | exact W.na_Kind_superclass | exact W.na_Kind_fields | exact W.na_Change_name | exact W.na_Change_old | exact W.na_Change_new | exact W.na_Change_origins)
set_option hygiene false in
local macro_rules | `(tactic| k_ownIn) => `(tactic| first | exact W.C_Kind | exact W.C_Change)
local macro_rules | `(tactic| none_booked) => `(tactic| first | assumption | (refine Fr.g0 (by assumption) ?_; none_booked))
local macro_rules | `(tactic| one_sign) => `(tactic| repeat (first
  | refine Stp.h ?_
  | ((with_reducible refine' z_fld1 ?k0 ?k1 ?k2 ?k3 ?_); (case k0 => none_booked); (case k1 => k_ownIn); (case k2 => k_memK); (case k3 => rfl))
  | ((with_reducible refine' z_meth1 ?k0 ?k1 ?_); (case k0 => none_booked); (case k1 => rfl))
  | ((with_reducible refine' z_bmL ?k0 ?_); (case k0 => none_booked))
  | ((with_reducible refine' z_lenL ?k0 ?_); (case k0 => none_booked))
  | ((with_reducible refine' z_lenT ?k0 ?_); (case k0 => none_booked))
  | ((with_reducible refine' z_lenD ?k0 ?_); (case k0 => none_booked))
  | ((with_reducible refine' z_truL ?k0 ?_); (case k0 => none_booked))
  | ((with_reducible refine' z_truD ?k0 ?_); (case k0 => none_booked))
  | ((with_reducible refine' z_truT ?k0 ?_); (case k0 => none_booked))
  | ((with_reducible refine' z_inDIP ?k0 ?_); (case k0 => none_booked))
  | ((with_reducible refine' z_inDIN ?k0 ?_); (case k0 => none_booked))
  | ((with_reducible refine' z_inDfP ?k0 ?_); (case k0 => none_booked))
  | ((with_reducible refine' z_inDfN ?k0 ?_); (case k0 => none_booked))
  | ((with_reducible refine' z_iList1 ?k0 ?_); (case k0 => none_booked))
  | ((with_reducible refine' z_isi0 ?k0 ?k1 ?k2 ?_); (case k0 => exact (ClsV.ty _)); (case k1 => exact (TyX.base (TyOf.lst (by none_booked)))); (case k2 => first | exact kt_list_int | exact kt_list_bool | exact kt_list_str | exact kt_list_list | exact kt_list_tuple | exact kt_list_dict))
  | ((with_reducible refine' z_rI ?k0 ?_); (case k0 => first | exact (by decide : (0 : Int) < _) | exact ⟨by decide, by decide⟩ | exact ⟨by decide, by decide, by decide⟩ | (show (0 : Int) < _; omega)))
  | ((with_reducible refine' z_mulI ?k0 ?_); (case k0 => first | exact Or.inr ⟨by decide, by decide⟩ | exact Or.inl ⟨by decide, by decide⟩ | exact Or.inl ⟨by omega, by omega⟩ | exact Or.inr ⟨by omega, by omega⟩))))
local macro_rules | `(tactic| leaf_len) => `(tactic| (simp only [wipe, List.map_cons, List.map_nil, List.set_cons_zero, List.set_cons_succ]; one_sign; refine z_ok rfl ?_; one_sign))
section
variable {P : Program} {w : World} {K : PySem.W.Frag} {mg : Str → Option Value} {base : Heap}
def sp_law52 (K : PySem.W.Frag) : Sp := fun vs H Q _ => ∃ (a : Addr) (ns : List Int), vs = [.ref a] ∧ SqL K H a (ns.map V.int) ∧ ns.length ≤ 63 ∧ ∀ H', Q (.bl true) H'
theorem ok_law (W : Wd P K mg) : FnG GNone P w K mg base CX0 6 W.f_law W.fd_law ["_law_script"] (sp_law52 K) := by
  refine fn_ofG W.F_law sc_law (fun vs H Q E h => by obtain ⟨a, ns, rfl, hs, hl, k⟩ := h; rfl) (fun cdv A outer s H vs Q E hG hr h => ?_)
  obtain ⟨a, ns, rfl, hs, hl, k⟩ := h
  have hu1 := hu_of hr
  have hu64 := hu64_of hr
  have hg : (A.deeper (envOfC ("law" : Str) (defScope s_law) s.heap.objs.size W.f_law cdv)).guards = some [] := hG
  refine ⟨_, (pss_cons (ps_set (i := 1) sc_law.nd rfl (by first | exact Or.inl rfl | exact Or.inr rfl) (pe_lst (pa_cons pe_int (pa_cons pe_int pa_nil))))
      (pss_cons (ps_set (i := 2) sc_law.nd rfl (by first | exact Or.inl rfl | exact Or.inr rfl) (pe_call (ok__law_kinds W) (hr.mono (by decide)) rfl W.g__law_kinds W.F__law_kinds.kp W.b__law_kinds .nil pass0 (pa_cons (pv 1) (pa_cons (pv 0) pa_nil))))
      (pss_cons (ps_set (i := 3) sc_law.nd rfl (by first | exact Or.inl rfl | exact Or.inr rfl) (pe_op op_addU (pe_lst (pa_cons (pe_make W.M_Kind (ok_Kind___init__ W) (hr.mono (by decide)) rfl W.g_Kind W.b_Kind___init__ .nil pass0 (pa_cons (pe_ix (ix_U hu1) (pe_gr rfl W.g_KERNEL) pe_int (fun _ _ => rfl)) (pa_cons pe_non (pa_cons (pe_tup pa_nil) pa_nil)))) pa_nil)) (pe_lc (own := [("_law_one", 4)]) (g := gName 4) (tt := tYes) rfl sc_law.nd (pi_tup (pe_slice sl_U (pe_gr rfl W.g_KERNEL) (po_some pe_int) po_none)) (blkOk_by (N := N_law) (sc := defScope s_law) (by decide +kernel)) (fun _ _ _ _ _ => (pg_name (i := 4) sc_law.nd rfl (by first | exact Or.inl rfl | exact Or.inr rfl))) (fun _ _ _ _ _ => pts_nil) (fun _ _ _ _ _ => (pe_make W.M_Kind (ok_Kind___init__ W) (hr.mono (by decide)) rfl W.g_Kind W.b_Kind___init__ .nil pass0 (pa_cons (pv 4) (pa_cons (pe_strT (show (PySem.Str.ofString "Object") = T [79, 98, 106, 101, 99, 116] by decide +kernel)) (pa_cons (pe_tup pa_nil) pa_nil))))))))
      (pss_cons (ps_set (i := 3) sc_law.nd rfl (by first | exact Or.inl rfl | exact Or.inr rfl) (pe_op op_addU (pv 3) (pe_lc (own := [("_law_one", 4)]) (g := gName 4) (tt := tYes) rfl sc_law.nd (pi_list (pv 2)) (blkOk_by (N := N_law) (sc := defScope s_law) (by decide +kernel)) (fun _ _ _ _ _ => (pg_name (i := 4) sc_law.nd rfl (by first | exact Or.inl rfl | exact Or.inr rfl))) (fun _ _ _ _ _ => pts_nil) (fun _ _ _ _ _ => (pe_make W.M_Kind (ok_Kind___init__ W) (hr.mono (by decide)) rfl W.g_Kind W.b_Kind___init__ .nil pass0 (pa_cons (pe_ix (ix_UK (K := K) rfl (by exact hu1)) (pv 4) pe_int (fun _ _ => rfl)) (pa_cons (pe_ix (ix_UK (K := K) rfl (by exact hu1)) (pv 4) pe_int (fun _ _ => rfl)) (pa_cons (pe_ix (ix_UK (K := K) rfl (by exact hu1)) (pv 4) pe_int (fun _ _ => rfl)) pa_nil))))))))
      (pss_cons (ps_for PassesOwn.never rfl (pi_list (pv 2)) (pg_name (i := 4) sc_law.nd rfl (by first | exact Or.inl rfl | exact Or.inr rfl)) (Evl.pss_cut (ps_if (pt_cmpR (op_neU hu64) (pe_call (ok_all_fields W) (hr.mono (by decide)) rfl W.g_all_fields W.F_all_fields.kp W.b_all_fields .nil pass0 (pa_cons (pv 3) (pa_cons (pe_ix (ix_U hu1) (pv 4) pe_int (fun _ _ => rfl)) pa_nil))) (pe_call (ok__law_all W) (hr.mono (by decide)) rfl W.g__law_all W.F__law_all.kp W.b__law_all .nil pass0 (pa_cons (pv 2) (pa_cons (pe_ix (ix_U hu1) (pv 4) pe_int (fun _ _ => rfl)) pa_nil))) (by first | exact nomark _ | rfl)) (pss_one (ps_ret pe_bl)) pss_nil)
      (pss_one (ps_for PassesOwn.never rfl (pi_list (pv 2)) (pg_name (i := 5) sc_law.nd rfl (by first | exact Or.inl rfl | exact Or.inr rfl)) (pss_one (ps_if (pt_cmpR (op_neU hu64) (pe_call (ok_is_under W) (hr.mono (by decide)) rfl W.g_is_under W.F_is_under.kp W.b_is_under .nil pass0 (pa_cons (pv 3) (pa_cons (pe_ix (ix_U hu1) (pv 4) pe_int (fun _ _ => rfl)) (pa_cons (pe_ix (ix_U hu1) (pv 5) pe_int (fun _ _ => rfl)) pa_nil)))) (pe_call (ok__law_under W) (hr.mono (by decide)) rfl W.g__law_under W.F__law_under.kp W.b__law_under .nil pass0 (pa_cons (pv 2) (pa_cons (pe_ix (ix_U hu1) (pv 4) pe_int (fun _ _ => rfl)) (pa_cons (pe_ix (ix_U hu1) (pv 5) pe_int (fun _ _ => rfl)) pa_nil)))) (by first | exact nomark _ | rfl)) (pss_one (ps_ret pe_bl)) pss_nil))))))
      (pss_cons (ps_set (i := 6) sc_law.nd rfl (by first | exact Or.inl rfl | exact Or.inr rfl) (pe_lst (pa_cons (pe_strT (show (PySem.Str.ofString "x") = T [120] by decide +kernel)) (pa_cons (pe_strT (show (PySem.Str.ofString "y") = T [121] by decide +kernel)) (pa_cons (pe_strT (show (PySem.Str.ofString "z") = T [122] by decide +kernel)) (pa_cons (pe_strT (show (PySem.Str.ofString "w") = T [119] by decide +kernel)) (pa_cons (pe_strT (show (PySem.Str.ofString "long1") = T [108, 111, 110, 103, 49] by decide +kernel)) (pa_cons (pe_strT (show (PySem.Str.ofString "v") = T [118] by decide +kernel)) (pa_cons (pe_strT (show (PySem.Str.ofString "u") = T [117] by decide +kernel)) (pa_cons (pe_strT (show (PySem.Str.ofString "t") = T [116] by decide +kernel)) (pa_cons (pe_strT (show (PySem.Str.ofString "new") = T [110, 101, 119] by decide +kernel)) (pa_cons (pe_strT (show (PySem.Str.ofString "n2") = T [110, 50] by decide +kernel)) pa_nil))))))))))))
      (pss_cons (ps_set (i := 7) sc_law.nd rfl (by first | exact Or.inl rfl | exact Or.inr rfl) (pe_lst (pa_cons (pe_strT (show (PySem.Str.ofString "X") = T [88] by decide +kernel)) (pa_cons (pe_strT (show (PySem.Str.ofString "self") = T [115, 101, 108, 102] by decide +kernel)) (pa_cons (pe_strT (show (PySem.Str.ofString "") = T [] by decide +kernel)) (pa_cons (pe_strT (show (PySem.Str.ofString "a b") = T [97, 32, 98] by decide +kernel)) (pa_cons (pe_strT (show (PySem.Str.ofString "9a") = T [57, 97] by decide +kernel)) (pa_cons (pe_op op_repS (pe_strT (show (PySem.Str.ofString "a") = T [97] by decide +kernel)) pe_int) (pa_cons (pe_strT (show (PySem.Str.ofString "a_") = T [97, 95] by decide +kernel)) (pa_cons (pe_strT (show (PySem.Str.ofString "nil") = T [110, 105, 108] by decide +kernel)) pa_nil))))))))))
      (pss_cons (ps_for PassesOwn.never rfl (pi_range1 (by rfl) W.n_range (pa_cons pe_int pa_nil)) (pg_name (i := 8) sc_law.nd rfl (by first | exact Or.inl rfl | exact Or.inr rfl)) (pss_cons (ps_asg (pe_ix (ix_U hu1) (pv 2) (pe_call (ok__law_draw W) (hr.mono (by decide)) rfl W.g__law_draw W.F__law_draw.kp W.b__law_draw .nil pass0 (pa_cons (pv 1) (pa_cons (pv 0) (pa_cons (pe_callB call_lenU (by rfl) W.n_len bb_len (pa_cons (pv 2) pa_nil)) pa_nil)))) (fun _ _ => rfl)) (pg_tup rfl (pgs_cons (pg_name (i := 13) sc_law.nd rfl (by first | exact Or.inl rfl | exact Or.inr rfl)) (pgs_cons (pg_name (i := 14) sc_law.nd rfl (by first | exact Or.inl rfl | exact Or.inr rfl)) (pgs_cons (pg_name (i := 15) sc_law.nd rfl (by first | exact Or.inl rfl | exact Or.inr rfl)) pgs_nil)))))
      (pss_cons (ps_set (i := 9) sc_law.nd rfl (by first | exact Or.inl rfl | exact Or.inr rfl) (pe_ix (ix_U hu1) (pe_lst (pa_cons (pe_strT (show (PySem.Str.ofString "Object") = T [79, 98, 106, 101, 99, 116] by decide +kernel)) (pa_cons (pv 14) (pa_cons (pe_ix (ix_U hu1) (pe_ix (ix_U hu1) (pv 2) (pe_call (ok__law_draw W) (hr.mono (by decide)) rfl W.g__law_draw W.F__law_draw.kp W.b__law_draw .nil pass0 (pa_cons (pv 1) (pa_cons (pv 0) (pa_cons (pe_callB call_lenU (by rfl) W.n_len bb_len (pa_cons (pv 2) pa_nil)) pa_nil)))) (fun _ _ => rfl)) pe_int (fun _ _ => rfl)) pa_nil)))) (pe_call (ok__law_draw W) (hr.mono (by decide)) rfl W.g__law_draw W.F__law_draw.kp W.b__law_draw .nil pass0 (pa_cons (pv 1) (pa_cons (pv 0) (pa_cons pe_int pa_nil)))) (fun _ _ => rfl)))
      (pss_cons (ps_set (i := 10) sc_law.nd rfl (by first | exact Or.inl rfl | exact Or.inr rfl) (pe_lc (own := [("_law_j", 18)]) (g := gName 18) (tt := tYes) rfl sc_law.nd (pi_range1 (by rfl) W.n_range (pa_cons (pe_call (ok__law_draw W) (hr.mono (by decide)) rfl W.g__law_draw W.F__law_draw.kp W.b__law_draw .nil pass0 (pa_cons (pv 1) (pa_cons (pv 0) (pa_cons pe_int pa_nil)))) pa_nil)) (blkOk_by (N := N_law) (sc := defScope s_law) (by decide +kernel)) (fun _ _ _ _ _ => (pg_name (i := 18) sc_law.nd rfl (by first | exact Or.inl rfl | exact Or.inr rfl))) (fun _ _ _ _ _ => pts_nil) (fun _ _ _ _ _ => (pe_ix (ix_UK (K := K) rfl (by exact hu1)) (pv 6) (pe_call (ok__law_draw W) (hr.mono (by decide)) rfl W.g__law_draw W.F__law_draw.kp W.b__law_draw .nil pass0 (pa_cons (pv 1) (pa_cons (pv 0) (pa_cons pe_int pa_nil)))) (fun _ _ => rfl)))))
      (Evl.pss_cut (ps_if (pt_cmpR (op_eqU hu64) (pe_call (ok__law_draw W) (hr.mono (by decide)) rfl W.g__law_draw W.F__law_draw.kp W.b__law_draw .nil pass0 (pa_cons (pv 1) (pa_cons (pv 0) (pa_cons pe_int pa_nil)))) pe_int (by first | exact nomark _ | rfl)) (pss_one (ps_set (i := 10) sc_law.nd rfl (by first | exact Or.inl rfl | exact Or.inr rfl) (pe_lc (own := [("_law_j", 18)]) (g := gName 18)  rfl sc_law.nd (pi_range1 (by rfl) W.n_range (pa_cons (pe_callB call_lenU (by rfl) W.n_len bb_len (pa_cons (pv 10) pa_nil)) pa_nil)) (blkOk_by (N := N_law) (sc := defScope s_law) (by decide +kernel)) (fun _ _ _ _ _ => (pg_name (i := 18) sc_law.nd rfl (by first | exact Or.inl rfl | exact Or.inr rfl))) (fun _ _ _ _ _ => pts_one (pt_cmpR (op_ninUK (K := K) rfl (by exact hu1)) (pe_ix (ix_UK (K := K) rfl (by exact hu1)) (pv 10) (pv 18) (fun _ _ => rfl)) (pe_slice (sl_UK (K := K) rfl) (pv 10) po_none (po_some (pv 18))) (by first | exact nomark _ | rfl))) (fun _ _ _ _ _ => (pe_ix (ix_UK (K := K) rfl (by exact hu1)) (pv 10) (pv 18) (fun _ _ => rfl)))))) pss_nil)
      (pss_cons (ps_set (i := 11) sc_law.nd rfl (by first | exact Or.inl rfl | exact Or.inr rfl) (pe_call (ok__law_draw W) (hr.mono (by decide)) rfl W.g__law_draw W.F__law_draw.kp W.b__law_draw .nil pass0 (pa_cons (pv 1) (pa_cons (pv 0) (pa_cons pe_int pa_nil)))))
      (Evl.pss_cut (ps_if (pt_cmpR (op_eqU hu64) (pv 11) pe_int (by first | exact nomark _ | rfl)) (pss_one (ps_expr (pe_bm PySem.F.plainAttrs_list PySem.F.slot_list_append PySem.F.type_list_append mt_append (pv 10) (pa_cons (pe_ix (ix_U hu1) (pv 7) (pe_call (ok__law_draw W) (hr.mono (by decide)) rfl W.g__law_draw W.F__law_draw.kp W.b__law_draw .nil pass0 (pa_cons (pv 1) (pa_cons (pv 0) (pa_cons pe_int pa_nil)))) (fun _ _ => rfl)) pa_nil)))) pss_nil)
      (Evl.pss_cut (ps_if (pt_cmpR (op_eqU hu64) (pv 11) pe_int (by first | exact nomark _ | rfl)) (pss_one (ps_set (i := 9) sc_law.nd rfl (by first | exact Or.inl rfl | exact Or.inr rfl) (pe_ix (ix_U hu1) (pe_lst (pa_cons (pe_strT (show (PySem.Str.ofString "Integer") = T [73, 110, 116, 101, 103, 101, 114] by decide +kernel)) (pa_cons (pe_strT (show (PySem.Str.ofString "Nope") = T [78, 111, 112, 101] by decide +kernel)) (pa_cons (pv 13) pa_nil)))) (pe_call (ok__law_draw W) (hr.mono (by decide)) rfl W.g__law_draw W.F__law_draw.kp W.b__law_draw .nil pass0 (pa_cons (pv 1) (pa_cons (pv 0) (pa_cons pe_int pa_nil)))) (fun _ _ => rfl)))) pss_nil)
      (Evl.pss_cut (ps_if (pt_cmpR (op_eqU hu64) (pv 11) pe_int (by first | exact nomark _ | rfl)) (pss_one (ps_set (i := 10) sc_law.nd rfl (by first | exact Or.inl rfl | exact Or.inr rfl) (pe_lc (own := [("_law_j", 18)]) (g := gName 18) (tt := tYes) rfl sc_law.nd (pi_range1 (by rfl) W.n_range (pa_cons (pe_op op_addU pe_int (pe_call (ok__law_draw W) (hr.mono (by decide)) rfl W.g__law_draw W.F__law_draw.kp W.b__law_draw .nil pass0 (pa_cons (pv 1) (pa_cons (pv 0) (pa_cons pe_int pa_nil))))) pa_nil)) (blkOk_by (N := N_law) (sc := defScope s_law) (by decide +kernel)) (fun _ _ _ _ _ => (pg_name (i := 18) sc_law.nd rfl (by first | exact Or.inl rfl | exact Or.inr rfl))) (fun _ _ _ _ _ => pts_nil) (fun _ _ _ _ _ => (pe_op (op_addUK (K := K) rfl) (pe_strT (show (PySem.Str.ofString "f") = T [102] by decide +kernel)) (pe_callTy call_strU (by rfl) W.n_str bb_str (pa_cons (pv 18) pa_nil))))))) pss_nil)
      (Evl.pss_cut (ps_if (pt_cmpR (op_eqU hu64) (pv 11) pe_int (by first | exact nomark _ | rfl)) (pss_one (ps_set (i := 13) sc_law.nd rfl (by first | exact Or.inl rfl | exact Or.inr rfl) (pe_ix (ix_U hu1) (pe_lst (pa_cons (pe_strT (show (PySem.Str.ofString "Array") = T [65, 114, 114, 97, 121] by decide +kernel)) (pa_cons (pe_strT (show (PySem.Str.ofString "Nope") = T [78, 111, 112, 101] by decide +kernel)) (pa_cons (pe_strT (show (PySem.Str.ofString "Object") = T [79, 98, 106, 101, 99, 116] by decide +kernel)) pa_nil)))) (pe_call (ok__law_draw W) (hr.mono (by decide)) rfl W.g__law_draw W.F__law_draw.kp W.b__law_draw .nil pass0 (pa_cons (pv 1) (pa_cons (pv 0) (pa_cons pe_int pa_nil)))) (fun _ _ => rfl)))) pss_nil)
      (pss_cons (ps_set (i := 12) sc_law.nd rfl (by first | exact Or.inl rfl | exact Or.inr rfl) (pe_call (ok__law_due W) (hr.mono (by decide)) rfl W.g__law_due W.F__law_due.kp W.b__law_due .nil pass0 (pa_cons (pv 2) (pa_cons (pv 13) (pa_cons (pv 9) (pa_cons (pv 10) pa_nil))))))
      (Evl.pss_cut (ps_if (pt_cmpR (op_neU hu64) (pe_callB (call_reprD hg hu64) (by rfl) W.n_repr bb_repr (pa_cons (pe_call (ok__law_planned W) (hr.mono (by decide)) rfl W.g__law_planned W.F__law_planned.kp W.b__law_planned .nil pass0 (pa_cons (pv 2) (pa_cons (pv 13) (pa_cons (pv 9) (pa_cons (pv 10) pa_nil))))) pa_nil)) (pe_callB (call_reprD hg hu64) (by rfl) W.n_repr bb_repr (pa_cons (pv 12) pa_nil)) (by first | exact nomark _ | rfl)) (pss_one (ps_ret pe_bl)) pss_nil)
      (pss_one (ps_if (pt_cmpR (op_eqU hu64) (pe_ix (ix_U hu1) (pv 12) pe_int (fun _ _ => rfl)) (pe_strT (show (PySem.Str.ofString "") = T [] by decide +kernel)) (by first | exact nomark _ | rfl)) (pss_cons (ps_set (i := 16) sc_law.nd rfl (by first | exact Or.inl rfl | exact Or.inr rfl) (pe_call (ok__law_behind W) (hr.mono (by decide)) rfl W.g__law_behind W.F__law_behind.kp W.b__law_behind .nil pass0 (pa_cons (pv 2) (pa_cons (pv 13) (pa_cons (pv 9) (pa_cons (pv 10) pa_nil))))))
      (pss_cons (ps_set (i := 17) sc_law.nd rfl (by first | exact Or.inl rfl | exact Or.inr rfl) (pe_call (ok__law_planned W) (hr.mono (by decide)) rfl W.g__law_planned W.F__law_planned.kp W.b__law_planned .nil pass0 (pa_cons (pv 16) (pa_cons (pv 13) (pa_cons (pv 14) (pa_cons (pv 15) pa_nil))))))
      (pss_one (ps_if (PW.pt (pw_or (pt_cmpR (op_neU hu64) (pe_ix (ix_U hu1) (pv 17) pe_int (fun _ _ => rfl)) (pe_strT (show (PySem.Str.ofString "") = T [] by decide +kernel)) (by first | exact nomark _ | rfl)) (pw_or1 (pt_cmpR (op_neU hu64) (pe_lc (own := [("_law_one", 4)]) (g := gName 4) (tt := tYes) rfl sc_law.nd (pi_list (pe_ix (ix_U hu1) (pv 17) pe_int (fun _ _ => rfl))) (blkOk_by (N := N_law) (sc := defScope s_law) (by decide +kernel)) (fun _ _ _ _ _ => (pg_name (i := 4) sc_law.nd rfl (by first | exact Or.inl rfl | exact Or.inr rfl))) (fun _ _ _ _ _ => pts_nil) (fun _ _ _ _ _ => (pe_lst (pa_cons (pe_ix (ix_UK (K := K) rfl (by exact hu1)) (pv 4) pe_int (fun _ _ => rfl)) (pa_cons (pe_ix (ix_UK (K := K) rfl (by exact hu1)) (pv 4) pe_int (fun _ _ => rfl)) (pa_cons (pe_ix (ix_UK (K := K) rfl (by exact hu1)) (pv 4) pe_int (fun _ _ => rfl)) pa_nil)))))) (pe_lc (own := [("_law_one", 4)]) (g := gName 4) (tt := tYes) rfl sc_law.nd (pi_list (pe_ix (ix_U hu1) (pv 12) pe_int (fun _ _ => rfl))) (blkOk_by (N := N_law) (sc := defScope s_law) (by decide +kernel)) (fun _ _ _ _ _ => (pg_name (i := 4) sc_law.nd rfl (by first | exact Or.inl rfl | exact Or.inr rfl))) (fun _ _ _ _ _ => pts_nil) (fun _ _ _ _ _ => (pe_lst (pa_cons (pe_ix (ix_UK (K := K) rfl (by exact hu1)) (pv 4) pe_int (fun _ _ => rfl)) (pa_cons (pe_ix (ix_UK (K := K) rfl (by exact hu1)) (pv 4) pe_int (fun _ _ => rfl)) (pa_cons (pe_ix (ix_UK (K := K) rfl (by exact hu1)) (pv 4) pe_int (fun _ _ => rfl)) pa_nil)))))) (by first | exact nomark _ | rfl))))) (pss_one (ps_ret pe_bl)) pss_nil)))) pss_nil))))))))))))))
      (pss_one (ps_ret (pe_and (pe_cmpR (op_eqU hu64) (pe_fld (pe_make W.M_Change (ok_Change___init__ W) (hr.mono (by decide)) rfl W.g_Change W.b_Change___init__ .nil pass0 (pa_cons (pe_strT (show (PySem.Str.ofString "A") = T [65] by decide +kernel)) (pa_cons (pe_lst (pa_cons (pe_strT (show (PySem.Str.ofString "x") = T [120] by decide +kernel)) pa_nil)) (pa_cons (pe_lst (pa_cons (pe_strT (show (PySem.Str.ofString "y") = T [121] by decide +kernel)) (pa_cons (pe_strT (show (PySem.Str.ofString "x") = T [120] by decide +kernel)) pa_nil))) pa_nil)))) rfl) (pe_tup (pa_cons pe_non (pa_cons pe_int pa_nil))) (by first | exact nomark _ | rfl)) (pe_one (pe_cmpR (op_eqU hu64) (pe_fld (pe_make W.M_Kind (ok_Kind___init__ W) (hr.mono (by decide)) rfl W.g_Kind W.b_Kind___init__ .nil pass0 (pa_cons (pe_strT (show (PySem.Str.ofString "A") = T [65] by decide +kernel)) (pa_cons pe_non (pa_cons (pe_lst (pa_cons (pe_strT (show (PySem.Str.ofString "x") = T [120] by decide +kernel)) pa_nil)) pa_nil)))) rfl) (pe_tup (pa_cons (pe_strT (show (PySem.Str.ofString "x") = T [120] by decide +kernel)) pa_nil)) (by first | exact nomark _ | rfl)))))))))))))), ?_⟩
  refine z_start (σ := [some _, none, none, none, none, none, none, none, none, none, none, none, none, none, none, none, none, none, none]) rfl ?_
  one_sign
  refine z_newL (by show 2 ≤ sizeLine; decide) fun sl Ha hsl fa ea => ?_
  have sa : StL Ha sl := ⟨0, 0, by decide, ea⟩
  have sca := ScK.new hs hsl fa
  one_sign
  refine ⟨sl, a, ns, rfl, sa, sca, hl, fun Hk l A R fk sk S hI' hpos => ?_⟩
  have sck := sca.on fk
  have g := hI'.gd
  have hR : R.length ≤ 100 := by have := hI'.le; omega
  have wf := hI'.wf
  have hown : ∀ r ∈ R, r.own.length ≤ 40 := fun r hr => by have := (hI'.own r hr).1; omega
  clear fk ea sa sca
  one_sign
  have KK : ∀ H' : Hp, SqT K H' W.a_KERNEL (KERN.map V.str) := fun H' => W.tp_KERNEL H'
  refine z_ixU (KK _) (atI_nat (j := 0) rfl) ?_
  one_sign
  refine z_newL (by show 0 ≤ sizeLine; decide) fun t0 H1 ht0 f1 e1 => ?_
  intro x0 dx0 hx0 hdx0 nx0
  refine mk_kind (nm := OBJ) (sup := none) (fl := []) rfl (Or.inr e1) hx0 hdx0 nx0 fun H2 f2 K0 => ?_
  one_sign
  refine z_newL (by show 1 ≤ sizeLine; decide) fun q0 H3 hq0 f3 q3 => ?_
  one_sign
  refine z_slT (KK _) (by decide) fun tk H4 htk f4 k4 => ?_
  rw [show cutV (KERN.map V.str) (some 1) none = KERN.tail.map V.str from cut_from1 _ _] at k4
  one_sign
  refine z_iTup1 (SqT.of k4) ?_
  one_sign
  refine z_lcU (SqT.of k4) (fun i xs H' => ∃ A1, xs = A1.map V.ref ∧ KdsAt W.c_Kind H' A1 ((KERN.tail.take i).map kkd)) (fun _ _ _ _ => ⟨[], rfl, rfl, fun i a k h _ => by cases h⟩) (fun Rr i x xs H' hRr hi hil hxl hP hX f5 => ?_) (fun q1 xs H5 hq1 hP hxl hX f5 => ?_)
  · rw [List.getElem?_map] at hi
    obtain ⟨z, hz', rfl⟩ := Option.map_eq_some_iff.mp hi
    obtain ⟨A1, rfl, KA⟩ := hP
    leaf_len
    refine z_newL (by show 0 ≤ sizeLine; decide) fun t1 H6 ht1 f6 e6 => ?_
    intro x dx hx hdx nx
    refine mk_kind (nm := z) (sup := some OBJ) (fl := []) rfl (Or.inr e6) hx hdx nx fun H7 f7 K1 => ?_
    have f67 := f6.trans f7
    have hX7 := f67.g0 hX
    refine z_lcY hRr hX7 (f5.trans f67) hxl (by have : i < 14 := hil; rw [sizeLine_eq]; omega) fun H8 f8 _ _ => ?_
    refine ⟨A1 ++ [x], by rw [List.map_append]; rfl, ?_⟩
    rw [List.take_succ, hz', List.map_append]
    exact ((KA.keep f67).app (KdsAt.one K1)).keepL hX7 f8
  obtain ⟨A1, rfl, KA1⟩ := hP
  rw [show (KERN.tail.map V.str).length = KERN.tail.length from List.length_map _, List.take_length] at KA1
  one_sign
  have F5 := (f3.trans f4).trans f5
  refine z_addL ((f4.trans f5).g0 q3) hX (by rw [List.length_map, KA1.1, sizeLine_eq]; show 1 + 14 ≤ _; omega) fun q2 H6 hq2 f6 e6 => ?_
  have KA6 : KdsAt W.c_Kind H6 (x0 :: A1) (okd :: KERN.tail.map kkd) := (KdsAt.one (K0.keep0 (F5.trans f6))).app (KA1.keep f6)
  have F6 := ((f1.trans f2).trans F5).trans f6
  have hl6 := F6.g0 S.l
  have S6 := S.keep F6
  one_sign
  refine z_lcL hl6 (fun i xs H' => ∃ A2, xs = A2.map V.ref ∧ KdsAt W.c_Kind H' A2 ((R.take i).map rkd)) (fun _ _ _ _ => ⟨[], rfl, rfl, fun i a k h _ => by cases h⟩) (fun Rr i x xs H' hRr hi hil hxl hP hX f7 => ?_) (fun q4 xs H7 hq4 hP hxl hX7 f7 => ?_)
  · rw [List.getElem?_map] at hi
    obtain ⟨ad, had, rfl⟩ := Option.map_eq_some_iff.mp hi
    obtain ⟨r, hr'⟩ := S.len' had
    obtain ⟨A2, rfl, KA⟩ := hP
    obtain ⟨oo, a1, a2⟩ := (S6.keep f7).it i ad r had hr'
    have hil2 := (List.getElem?_eq_some_iff.mp hr').1
    leaf_len
    refine z_ixT a1 (atI_nat (j := 0) rfl) ?_
    one_sign
    refine z_ixT a1 (atI_nat (j := 1) rfl) ?_
    one_sign
    refine z_ixT a1 (atI_nat (j := 2) rfl) ?_
    one_sign
    intro x dx hx hdx nx
    refine mk_kind (nm := r.nm) (sup := some r.ab) (fl := r.own) rfl (Or.inl a2) hx hdx nx fun H8 f8 K1 => ?_
    have hX8 := f8.g0 hX
    refine z_lcY hRr hX8 (f7.trans f8) hxl (by rw [sizeLine_eq]; omega) fun H9 f9 _ _ => ?_
    refine ⟨A2 ++ [x], by rw [List.map_append]; rfl, ?_⟩
    rw [List.take_succ, hr', List.map_append]
    exact ((KA.keep f8).app (KdsAt.one K1)).keepL hX8 f9
  obtain ⟨A2, rfl, KA2⟩ := hP
  rw [List.length_map, S.len, List.take_length] at KA2
  have e67 := f7.g0 e6
  one_sign
  refine z_addL e67 hX7 (by rw [List.length_append, List.length_map, List.length_map, KA1.1, KA2.1, List.length_map, List.length_map, sizeLine_eq]; show 1 + 14 + R.length ≤ _; omega) fun q5 H8 hq5 f8 e8 => ?_
  have KS : KsA W.c_Kind H8 q5 ((x0 :: A1) ++ A2) (gv R) := by
    have h := (KA6.keep (f7.trans f8)).app (KA2.keep f8)
    exact ⟨by rw [e8, List.map_append]; rfl, h.1, h.2⟩
  have F8' : Fr [] Hk H8 := F6.trans (f7.trans f8)
  have S8 := S.keep F8'
  have s8 := sk.keep F8'
  have sc8 := sck.on (F8'.mono (show ∀ b, b ∈ [] → b ∈ [sl] by simp))
  clear KA6 KA2 KA1 e67 e6 hl6 S6 F6 hX hX7 f7 f8 F5 f6 f5 f4 f3 K0 f2 f1 e1 e8 q3 k4
  generalize hAL : (x0 :: A1) ++ A2 = AL at KS
  have hl8 := S8.l
  one_sign
  refine for_list (K := K) (a := l) (xs := A.map V.ref) (fun i σ H' => ∃ (v4 v5 : Option V), σ = [some (.ref a), some (.ref sl), some (.ref l), some (.ref q5), v4, v5, none, none, none, none, none, none, none, none, none, none, none, none, none] ∧ Fr [] H8 H')
    ⟨_, _, rfl, Fr.rfl'⟩ (fun i σ H' _ e => by obtain ⟨_, _, _, f⟩ := e; exact SqL.of (f.g0 hl8)) (fun i x σ H9 hx hI => ?_) (fun σ H9 hI => ?_)
  · obtain ⟨v4, v5, rfl, f9⟩ := hI
    rw [List.getElem?_map] at hx
    obtain ⟨ad, had, rfl⟩ := Option.map_eq_some_iff.mp hx
    obtain ⟨r, hr'⟩ := S.len' had
    have hrm := List.mem_of_getElem? hr'
    obtain ⟨c, hc, hcl⟩ := wf r hrm
    have hlay : ∀ z ∈ cfl c, PyData.canLay0 (.str z) = true := fun z hz => by
      rw [← hc.lall g 20 (by omega)] at hz
      obtain ⟨x, hx, hzx⟩ := lall_mem 20 _ z hz
      exact (f8_ok z ((hI'.own x hx).2.1 z hzx)).1
    have l1 := cfl_len (c := c) (b := 40) fun x hx => hown x (hc.sub x hx)
    have S9 := S8.keep f9
    have KS9 := KS.keep f9
    obtain ⟨oo, a1, a2⟩ := S9.it i ad r had hr'
    one_sign
    refine ⟨fun σ' H' => σ' = [some (.ref a), some (.ref sl), some (.ref l), some (.ref q5), some (.ref ad), v5, none, none, none, none, none, none, none, none, none, none, none, none, none] ∧ Fr [] H9 H', ?_, fun σ' H10 hM => ?_⟩
    · one_sign
      refine z_ixT a1 (atI_nat (j := 0) rfl) ?_
      one_sign
      refine ⟨q5, AL, gv R, r.nm, _, rfl, KS9, hc.up g, by rw [cfl_flK]; omega, fun H10 p1 f10 hp1 e10 => ?_⟩
      rw [cfl_flK] at e10
      have b1 := f10.g0 a1
      one_sign
      refine z_ixT b1 (atI_nat (j := 0) rfl) ?_
      one_sign
      refine ⟨l, A, R, r.nm, rfl, S9.keep f10, hown, fun H11 p2 f11 hp2 e11 => ?_⟩
      rw [hc.lall g 20 (by omega)] at e11
      refine ⟨_, _, Dp.lst (SqL.of (f11.g0 e10)) (dpall_strs _), Dp.lst (SqL.of e11) (dpall_strs _), shaped_strs hlay, shaped_strs hlay, ?_⟩
      rw [show PyData.eqv (.list ((cfl c).map .str)) (.list ((cfl c).map .str)) = true from eqv_strs _]
      one_sign
      exact ⟨rfl, f10.trans f11⟩
    obtain ⟨rfl, f10⟩ := hM
    have f90 := f9.trans f10
    have hl10 := f90.g0 hl8
    have b1 := f10.g0 a1
    one_sign
    refine for_list (K := K) (a := l) (xs := A.map V.ref) (fun j σ H' => (∃ (v5 : Option V), σ = [some (.ref a), some (.ref sl), some (.ref l), some (.ref q5), some (.ref ad), v5, none, none, none, none, none, none, none, none, none, none, none, none, none]) ∧ H' = H10)
      ⟨⟨_, rfl⟩, rfl⟩ (fun j σ H' _ e => by rw [e.2]; exact SqL.of hl10) (fun j x σ H11 hx hJ => ?_) (fun σ H11 hJ => ?_)
    · obtain ⟨⟨v5, rfl⟩, rfl⟩ := hJ
      rw [List.getElem?_map] at hx
      obtain ⟨ad2, had2, rfl⟩ := Option.map_eq_some_iff.mp hx
      obtain ⟨r2, hr2⟩ := S.len' had2
      have S10 := S8.keep f90
      obtain ⟨oo2, c1, c2⟩ := S10.it j ad2 r2 had2 hr2
      one_sign
      refine z_ixT b1 (atI_nat (j := 0) rfl) ?_
      one_sign
      refine z_ixT c1 (atI_nat (j := 0) rfl) ?_
      one_sign
      refine ⟨q5, AL, gv R, r.nm, _, r2.nm, rfl, KS.keep f90, hc.up g, ?_⟩
      rw [← hc.lund g r2.nm 20 (by omega)]
      one_sign
      refine z_ixT b1 (atI_nat (j := 0) rfl) ?_
      one_sign
      refine z_ixT c1 (atI_nat (j := 0) rfl) ?_
      one_sign
      refine ⟨l, A, R, r.nm, r2.nm, rfl, S10, ?_⟩
      refine ⟨rfl, ?_⟩
      rw [B_dec]
      rw [show (lund R 20 r.nm r2.nm == lund R 20 r.nm r2.nm) = true from beq_self_eq_true _]
      one_sign
      exact ⟨⟨_, rfl⟩, rfl⟩
    · obtain ⟨⟨v5, rfl⟩, rfl⟩ := hJ
      one_sign
      exact ⟨_, _, rfl, f90⟩
  · obtain ⟨v4, v5, rfl, f9⟩ := hI
    one_sign
    refine z_newL (by show 10 ≤ sizeLine; decide) fun fl H10 hfl f10 e10 => ?_
    one_sign
    refine ⟨97, 33, rfl, rfl, by decide, by decide, ?_⟩
    one_sign
    refine z_newL (by show 8 ≤ sizeLine; decide) fun wl HB hwl f11 ewl => ?_
    have F11 := (f9.trans f10).trans f11
    have SB := S8.keep F11
    have sB := s8.keep F11
    have scB := sc8.on (F11.mono (show ∀ b, b ∈ [] → b ∈ [sl] by simp))
    have flB : HB fl = some (.lst (F10.map V.str)) := f11.g0 e10
    have wlB : HB wl = some (.lst (W8.map V.str)) := ewl
    clear S8 s8 sc8 F11 f9 f10 f11 KS hl8 ewl e10 sck S sk
    have at_ : ∀ H', Fr [sl] HB H' → LkA H' l A R ∧ H' fl = some (.lst (F10.map V.str)) ∧ H' wl = some (.lst (W8.map V.str)) := fun H' f => ⟨SB.keepS sB f, f.g flB (sB.neS flB), f.g wlB (sB.neS wlB)⟩
    have hAl : A.length = R.length := SB.len
    have hR5 := hI'.le
    have drw : ∀ {H' : Hp} {m : Nat} {x : Int} {Q : VK}, StL H' sl → Fr [sl] HB H' → x = (m : Int) → 0 < m → m ≤ 1000 → (∀ (d : Nat) H2, d < m → StL H2 sl → Fr [sl] H' H2 → Fr [sl] HB H2 → Q (.int (d : Int)) H2) → sp_draw K ([.ref sl, .ref a, .int x] ++ []) H' Q E0 := fun s f e h0 h1 k => s.draw f scB hl e h0 h1 fun d H2 hd s2 f2 => k d H2 hd s2 f2 (f.trans f2)
    one_sign
    refine z_rng1 4 rfl (by decide) ?_
    refine for_range (lo := 0) (n := 4) (fun i σ H' => (∃ (v4 v5 v8 v9 v10 v11 v12 v13 v14 v15 v16 v17 v18 : Option V), σ = [some (.ref a), some (.ref sl), some (.ref l), some (.ref q5), v4, v5, some (.ref fl), some (.ref wl), v8, v9, v10, v11, v12, v13, v14, v15, v16, v17, v18]) ∧ StL H' sl ∧ Fr [sl] HB H')
      ⟨⟨_, _, _, _, _, _, _, _, _, _, _, _, _, rfl⟩, sB, Fr.rfl'⟩ (fun i σ H1 hi hI => ?_) (fun σ H1 hI => ?_)
    · obtain ⟨⟨v4, v5, v8, v9, v10, v11, v12, v13, v14, v15, v16, v17, v18, rfl⟩, s1, f1⟩ := hI
      obtain ⟨S1, _, _⟩ := at_ H1 f1
      have hl1 := S1.l
      one_sign
      rw [List.length_map, hAl]
      refine drw s1 f1 rfl hpos (by omega) fun d H2 hd s2 f2 F2 => ?_
      obtain ⟨S2, _, _⟩ := at_ H2 F2
      obtain ⟨ad, had⟩ : ∃ ad, A[d]? = some ad := ⟨_, List.getElem?_eq_getElem (by omega)⟩
      obtain ⟨r, hr'⟩ := S2.len' had
      have hrm := List.mem_of_getElem? hr'
      obtain ⟨oo, aB1, aB2⟩ := SB.it d ad r had hr'
      have a1 := F2.g aB1 (sB.ne aB1 (by intro i v z; cases z))
      have ooX : ∀ H', Fr [sl] HB H' → H' oo = some (.lst (r.own.map V.str)) := fun H' f => f.g aB2 (sB.neS aB2)
      refine z_ixL S2.l (atI_nat (by rw [List.getElem?_map, had]; rfl)) ?_
      one_sign
      refine z_gtup a1 rfl ?_
      have hl2 := S2.l
      one_sign
      rw [List.length_map, hAl]
      refine drw s2 F2 rfl hpos (by omega) fun d2 H3 hd2 s3 f3 F3 => ?_
      obtain ⟨S3, _, _⟩ := at_ H3 F3
      obtain ⟨ad2, had2⟩ : ∃ ad2, A[d2]? = some ad2 := ⟨_, List.getElem?_eq_getElem (by omega)⟩
      obtain ⟨r2, hr2⟩ := S3.len' had2
      obtain ⟨oo2, c1, c2⟩ := S3.it d2 ad2 r2 had2 hr2
      refine z_ixL S3.l (atI_nat (by rw [List.getElem?_map, had2]; rfl)) ?_
      one_sign
      refine z_ixT c1 (atI_nat (j := 0) rfl) ?_
      one_sign
      refine z_newL (by show 3 ≤ sizeLine; decide) fun l3 H4 hl3 f4 e4 => ?_
      have F4 := F3.trans (f4.mono (show ∀ b, b ∈ [] → b ∈ [sl] by simp))
      one_sign
      refine drw (s3.keep f4) F4 (m := 3) rfl (by decide) (by decide) fun d3 H5 hd3 s5 f5 F5 => ?_
      have e5 : H5 l3 = some (.lst ([OBJ, r.ab, r2.nm].map V.str)) := f5.g e4 ((s3.keep f4).neS (o := [OBJ, r.ab, r2.nm]) e4)
      obtain ⟨ask, hask⟩ : ∃ z, [OBJ, r.ab, r2.nm][d3]? = some z := ⟨_, List.getElem?_eq_getElem hd3⟩
      refine z_ixL e5 (atI_nat (by rw [List.getElem?_map, hask]; rfl)) ?_
      one_sign
      refine drw s5 F5 (m := 5) rfl (by decide) (by decide) fun d4 H6 hd4 s6 f6 F6 => ?_
      one_sign
      refine z_rng1 d4 rfl (by omega) ?_
      refine z_lcRF [sl] (fun i xs H' => StL H' sl ∧ ∃ o : List Str, xs = o.map V.str ∧ ∀ z ∈ o, z ∈ F10) (fun Rr H' _ f => ⟨s6.keep f, [], rfl, by simp⟩) (fun Rr i xs H7 hRr hi hxl hP hX f7 => ?_) (fun nw xs H7 hnw hP hxl hX f7 => ?_)
      · obtain ⟨s7, o, rfl, ho⟩ := hP
        rw [List.length_map] at hxl
        have F7 := F6.trans f7
        leaf_len
        refine drw s7 F7 (m := 10) rfl (by decide) (by decide) fun d5 H8 hd5 s8 f8 F8 => ?_
        obtain ⟨_, fl8, _⟩ := at_ H8 F8
        obtain ⟨z, hz⟩ : ∃ z, F10[d5]? = some z := ⟨_, List.getElem?_eq_getElem hd5⟩
        refine z_ixL fl8 (atI_nat (by rw [List.getElem?_map, hz]; rfl)) ?_
        have hX8 := f8.g hX (s7.neS hX)
        refine z_lcG hRr hX8 (f7.trans f8) (by rw [List.length_map]; exact hxl) (by rw [sizeLine_eq]; omega) fun H9 f9 => ?_
        have nsR : sl ≠ Rr := fun e => by
          have := s7.neS hX
          rw [e] at this
          exact this (by simp)
        refine ⟨let ⟨i, v, h0, h1⟩ := s8; ⟨i, v, h0, f9.g h1 (nin nsR)⟩, o ++ [z], by rw [List.map_append]; rfl, fun y hy => ?_⟩
        rcases List.mem_append.mp hy with hy | hy
        · exact ho y hy
        · rw [List.mem_singleton] at hy
          rw [hy]; exact List.mem_of_getElem? hz
      · obtain ⟨s7, o, rfl, ho⟩ := hP
        rw [List.length_map] at hxl
        have F7 := F6.trans f7
        have hnB : HB nw = none := StL.nn s6 F6 hnw
        clear f7 e5 e4 f4 hl3 hl2 hl1 a1 c1 c2 S1 S2 S3
        one_sign
        refine ⟨fun σ' H' => ∃ (nw : Addr) (v18 : Option V) (o : List Str), σ' = [some (.ref a), some (.ref sl), some (.ref l), some (.ref q5), v4, v5, some (.ref fl), some (.ref wl), some (.int (0 + (i : Int))), some (.str ask), some (.ref nw), v11, v12, some (.str r.nm), some (.str r.ab), some (.ref oo), v16, v17, v18] ∧ StL H' sl ∧ Fr [sl] HB H' ∧ HB nw = none ∧ H' nw = some (.lst (o.map V.str)) ∧ o.length ≤ 5 ∧ ∀ z ∈ o, z ∈ F10, ?_, fun σ' H8 hM => ?_⟩
        · one_sign
          refine drw s7 F7 (m := 2) rfl (by decide) (by decide) fun d5 H8 hd5 s8 f8 F8 => ?_
          have nw8 := f8.g hX (s7.neS hX)
          one_sign
          refine iteD (fun h => ?_) (fun h => ?_)
          · one_sign
            rw [List.length_map]
            refine z_rng1 o.length rfl (by omega) ?_
            refine z_lcR (fun i xs H' => ∃ o2 : List Str, xs = o2.map V.str ∧ ∀ z ∈ o2, z ∈ F10) (fun Rr H' _ f => ⟨[], rfl, by simp⟩) (fun Rr i xs H9 hRr hi hxl2 hP hX f9 => ?_) (fun nw2 xs H9 hnw2 hP hxl2 hX f9 => ?_)
            · obtain ⟨o2, rfl, ho2⟩ := hP
              have nw9 := f9.g0 nw8
              obtain ⟨z, hz⟩ : ∃ z, o[i]? = some z := ⟨_, List.getElem?_eq_getElem hi⟩
              have hzv : atI (o.map V.str) (0 + (i : Int)) = some (V.str z) := by rw [Int.zero_add]; exact atI_nat (by rw [List.getElem?_map, hz]; rfl)
              leaf_len
              refine z_ixL nw9 hzv ?_
              one_sign
              rw [Int.zero_add]
              refine z_slL nw9 fun p H10 hp f10 e10 => ?_
              rw [cut_to _ _ (by rw [List.length_map]; omega), ← List.map_take] at e10
              refine z_inLN e10 rfl (flatS _) ?_
              rw [inVS]
              one_sign
              refine iteND (fun hm => ?_) (fun hm => ?_)
              · have nw10 := f10.g0 nw9
                one_sign
                refine z_ixL nw10 (atI_nat (by rw [List.getElem?_map, hz]; rfl)) ?_
                refine z_lcY hRr (f10.g0 hX) (f9.trans f10) hxl2 (by rw [sizeLine_eq]; omega) fun H11 _ _ _ => ?_
                refine ⟨o2 ++ [z], by rw [List.map_append]; rfl, fun y hy => ?_⟩
                rcases List.mem_append.mp hy with hy | hy
                · exact ho2 y hy
                · rw [List.mem_singleton] at hy
                  rw [hy]; exact ho z (List.mem_of_getElem? hz)
              · exact z_lcN (f10.g0 hX) (f9.trans f10) hxl2 ⟨o2, rfl, ho2⟩
            · obtain ⟨o2, rfl, ho2⟩ := hP
              rw [List.length_map] at hxl2
              one_sign
              exact ⟨nw2, _, o2, rfl, s8.keep f9, F8.trans (f9.mono (by simp)), StL.nn s8 F8 hnw2, hX, by omega, ho2⟩
          · one_sign
            exact ⟨nw, _, o, rfl, s8, F8, hnB, nw8, by omega, ho⟩
        clear F7 s7 hX ho hxl hnw hnB
        obtain ⟨nw, v18, o, rfl, s8, F8, hnB, nw8, ho5, hoF⟩ := hM
        have hok : ∀ z ∈ o, Ok1 z := fun z hz => f10_ok z (hoF z hz)
        clear hoF
        one_sign
        refine drw s8 F8 (m := 12) rfl (by decide) (by decide) fun pk H9 hpk s9 f9 F9 => ?_
        have nw9 := f9.g nw8 (s8.neS nw8)
        one_sign
        refine ⟨fun σ' H' => ∃ (o : List Str), σ' = [some (.ref a), some (.ref sl), some (.ref l), some (.ref q5), v4, v5, some (.ref fl), some (.ref wl), some (.int (0 + (i : Int))), some (.str ask), some (.ref nw), some (.int (pk : Int)), v12, some (.str r.nm), some (.str r.ab), some (.ref oo), v16, v17, v18] ∧ StL H' sl ∧ Fr [sl] HB H' ∧ H' nw = some (.lst (o.map V.str)) ∧ o.length ≤ 6 ∧ ∀ z ∈ o, Ok1 z, ?_, fun σ' H10 hM => ?_⟩
        · one_sign
          refine iteD (fun h => ?_) (fun h => ?_)
          · one_sign
            refine drw s9 F9 (m := 8) rfl (by decide) (by decide) fun d6 H10 hd6 s10 f10 F10' => ?_
            obtain ⟨_, _, wl10⟩ := at_ H10 F10'
            have nw10 := f10.g nw9 (s9.neS nw9)
            obtain ⟨z, hz⟩ : ∃ z, W8[d6]? = some z := ⟨_, List.getElem?_eq_getElem hd6⟩
            refine z_ixL wl10 (atI_nat (by rw [List.getElem?_map, hz]; rfl)) ?_
            one_sign
            refine z_append nw10 (by rw [List.length_map, sizeLine_eq]; omega) fun H11 f11 e11 n11 => ?_
            one_sign
            have nsn : sl ≠ nw := fun e => by
              have := s10.neS nw10
              rw [e] at this
              exact this (by simp)
            refine ⟨o ++ [z], rfl, let ⟨i, v, h0, h1⟩ := s10; ⟨i, v, h0, f11.g h1 (nin nsn)⟩, F10'.inF f11 hnB, by rw [List.map_append]; exact e11, by rw [List.length_append]; show o.length + 1 ≤ 6; omega, fun y hy => ?_⟩
            rcases List.mem_append.mp hy with hy | hy
            · exact hok y hy
            · rw [List.mem_singleton] at hy
              rw [hy]; exact w8_ok z (List.mem_of_getElem? hz)
          · one_sign
            exact ⟨o, rfl, s9, F9, nw9, by omega, hok⟩
        clear nw9 F9 s9 f9 nw8 F8 s8 hok ho5 o
        obtain ⟨o, rfl, s10, F10', nw10, ho6, hok⟩ := hM
        refine ⟨fun σ' H' => ∃ (ask : Str), σ' = [some (.ref a), some (.ref sl), some (.ref l), some (.ref q5), v4, v5, some (.ref fl), some (.ref wl), some (.int (0 + (i : Int))), some (.str ask), some (.ref nw), some (.int (pk : Int)), v12, some (.str r.nm), some (.str r.ab), some (.ref oo), v16, v17, v18] ∧ StL H' sl ∧ Fr [sl] HB H' ∧ H' nw = some (.lst (o.map V.str)), ?_, fun σ' H11 hM => ?_⟩
        · one_sign
          refine iteD (fun h => ?_) (fun h => ?_)
          · one_sign
            refine z_newL (by show 3 ≤ sizeLine; decide) fun l4 H11 hl4 f11 e11 => ?_
            one_sign
            refine drw (s10.keep f11) (F10'.trans (f11.mono (by simp))) (m := 3) rfl (by decide) (by decide) fun d7 H12 hd7 s12 f12 F12 => ?_
            have e12 : H12 l4 = some (.lst ([T [73, 110, 116, 101, 103, 101, 114], T [78, 111, 112, 101], r.nm].map V.str)) := f12.g e11 ((s10.keep f11).neS (o := [T [73, 110, 116, 101, 103, 101, 114], T [78, 111, 112, 101], r.nm]) e11)
            have nw11 := f11.g0 nw10
            have nw12 := f12.g nw11 ((s10.keep f11).neS nw11)
            obtain ⟨z, hz⟩ : ∃ z, [T [73, 110, 116, 101, 103, 101, 114], T [78, 111, 112, 101], r.nm][d7]? = some z := ⟨_, List.getElem?_eq_getElem hd7⟩
            refine z_ixL e12 (atI_nat (by rw [List.getElem?_map, hz]; rfl)) ?_
            one_sign
            exact ⟨z, rfl, s12, F12, nw12⟩
          · one_sign
            exact ⟨ask, rfl, s10, F10', nw10⟩
        clear F10' s10 nw10 hask
        obtain ⟨ask, rfl, s11, F11, nw11⟩ := hM
        refine ⟨fun σ' H' => ∃ (nw : Addr) (v18 : Option V) (o : List Str), σ' = [some (.ref a), some (.ref sl), some (.ref l), some (.ref q5), v4, v5, some (.ref fl), some (.ref wl), some (.int (0 + (i : Int))), some (.str ask), some (.ref nw), some (.int (pk : Int)), v12, some (.str r.nm), some (.str r.ab), some (.ref oo), v16, v17, v18] ∧ StL H' sl ∧ Fr [sl] HB H' ∧ H' nw = some (.lst (o.map V.str)) ∧ o.length ≤ 40 ∧ ∀ z ∈ o, Ok1 z, ?_, fun σ' H12 hM => ?_⟩
        · one_sign
          refine iteD (fun h => ?_) (fun h => ?_)
          · one_sign
            refine drw s11 F11 (m := 9) rfl (by decide) (by decide) fun d8 H12 hd8 s12 f12 F12 => ?_
            one_sign
            refine z_rng1 (26 + d8) (by omega) (by omega) ?_
            refine z_lcR (fun i xs H' => ∃ o2 : List Str, xs = o2.map V.str ∧ ∀ z ∈ o2, Ok1 z) (fun Rr H' _ f => ⟨[], rfl, by simp⟩) (fun Rr i xs H13 hRr hi hxl2 hP hX f13 => ?_) (fun nw2 xs H13 hnw2 hP hxl2 hX f13 => ?_)
            · obtain ⟨o2, rfl, ho2⟩ := hP
              leaf_len
              refine ⟨by rw [Int.zero_add, Int.natAbs_natCast]; exact Nat.lt_trans (log_small (by omega)) (by decide), ?_⟩
              rw [Int.zero_add]
              have hfj := fj_ok i (by omega)
              have hfl := hfj.2
              refine z_addS (by rw [str_len] at hfl; rw [sizeLine_eq]; exact Nat.le_trans hfl (by decide)) ?_
              refine z_lcY hRr hX f13 hxl2 (by rw [sizeLine_eq]; omega) fun H14 _ _ _ => ?_
              refine ⟨o2 ++ [_], by rw [List.map_append]; rfl, fun y hy => ?_⟩
              rcases List.mem_append.mp hy with hy | hy
              · exact ho2 y hy
              · rw [List.mem_singleton] at hy
                rw [hy]; exact hfj
            · obtain ⟨o2, rfl, ho2⟩ := hP
              rw [List.length_map] at hxl2
              one_sign
              exact ⟨nw2, _, o2, rfl, s12.keep f13, F12.trans (f13.mono (by simp)), hX, by omega, ho2⟩
          · one_sign
            exact ⟨nw, _, o, rfl, s11, F11, nw11, by omega, hok⟩
        clear F11 s11 nw11 hok ho6 hnB
        obtain ⟨nw, v18, o, rfl, s12, F12, nw12, ho, hok⟩ := hM
        refine ⟨fun σ' H' => ∃ (n : Str), σ' = [some (.ref a), some (.ref sl), some (.ref l), some (.ref q5), v4, v5, some (.ref fl), some (.ref wl), some (.int (0 + (i : Int))), some (.str ask), some (.ref nw), some (.int (pk : Int)), v12, some (.str n), some (.str r.ab), some (.ref oo), v16, v17, v18] ∧ StL H' sl ∧ Fr [sl] HB H' ∧ H' nw = some (.lst (o.map V.str)) ∧ (n = r.nm ∨ n ∉ nms R), ?_, fun σ' H13 hM => ?_⟩
        · one_sign
          refine iteD (fun h => ?_) (fun h => ?_)
          · one_sign
            refine z_newL (by show 3 ≤ sizeLine; decide) fun l4 H13 hl4 f13 e13 => ?_
            one_sign
            refine drw (s12.keep f13) (F12.trans (f13.mono (by simp))) (m := 3) rfl (by decide) (by decide) fun d7 H14 hd7 s14 f14 F14 => ?_
            have e14 : H14 l4 = some (.lst ([T [65, 114, 114, 97, 121], T [78, 111, 112, 101], OBJ].map V.str)) := f14.g e13 ((s12.keep f13).neS (o := [T [65, 114, 114, 97, 121], T [78, 111, 112, 101], OBJ]) e13)
            have nw13 := f13.g0 nw12
            have nw14 := f14.g nw13 ((s12.keep f13).neS nw13)
            obtain ⟨z, hz⟩ : ∃ z, [T [65, 114, 114, 97, 121], T [78, 111, 112, 101], OBJ][d7]? = some z := ⟨_, List.getElem?_eq_getElem hd7⟩
            refine z_ixL e14 (atI_nat (by rw [List.getElem?_map, hz]; rfl)) ?_
            one_sign
            refine ⟨z, rfl, s14, F14, nw14, Or.inr fun hm => ?_⟩
            rw [hI'.nm] at hm
            have hm5 := List.mem_of_mem_take hm
            have hz3 := List.mem_of_getElem? hz
            have no : ∀ z ∈ [T [65, 114, 114, 97, 121], T [78, 111, 112, 101], OBJ], z ∉ N5 := by decide
            exact no z hz3 hm5
          · one_sign
            exact ⟨r.nm, rfl, s12, F12, nw12, Or.inl rfl⟩
        clear F12 s12 nw12
        obtain ⟨n, rfl, s13, F13, nw13, hn⟩ := hM
        obtain ⟨S13, _, _⟩ := at_ H13 F13
        have hz : ∀ z ∈ o, z.length ≤ 1000 := fun z hz => by have := (hok z hz).2; omega
        have wf10 : Wf R 10 := wf.mono (by decide)
        have hcs := csW_ok hI' (n := n) (a := ask) ho hok
        have nice := nice_due (why_ok R n ask o) hcs.1 hcs.2
        one_sign
        refine ⟨l, A, R, n, ask, nw, o, rfl, S13, hR, hown, nw13, ho, hz, fun H14 q1 f14 D1 => ?_⟩
        have F14 : Fr [sl] HB H14 := F13.trans (f14.mono (by simp))
        have s14 := s13.keep f14
        have nw14 := f14.g0 nw13
        obtain ⟨S14, _, _⟩ := at_ H14 F14
        one_sign
        refine ⟨fun σ' H' => σ' = [some (.ref a), some (.ref sl), some (.ref l), some (.ref q5), v4, v5, some (.ref fl), some (.ref wl), some (.int (0 + (i : Int))), some (.str ask), some (.ref nw), some (.int (pk : Int)), some (.ref q1), some (.str n), some (.str r.ab), some (.ref oo), v16, v17, v18] ∧ Fr [] H14 H', ?_, fun σ' H15 hM => ?_⟩
        · one_sign
          refine ⟨l, A, R, n, ask, nw, o, rfl, S14, g, hR, wf10, hown, nw14, ho, hz, fun z hz => (hok z hz).1, fun H15 q2 f15 D2 => ?_⟩
          one_sign
          refine ⟨q2, _, rfl, D2.dp, nice.sh, nice.hd, Nat.le_trans nice.dp (by decide), nice.shown (by decide) (Nat.le_refl _), ?_⟩
          one_sign
          refine ⟨q1, _, rfl, (D1.keep f15).dp, nice.sh, nice.hd, Nat.le_trans nice.dp (by decide), nice.shown (by decide) (Nat.le_refl _), ?_⟩
          one_sign
          refine iteND (fun h => absurd rfl h) (fun _ => ?_)
          one_sign
          exact ⟨rfl, f15⟩
        obtain ⟨rfl, f15⟩ := hM
        have D1' := D1.keep f15
        have s15 := s14.keep f15
        have F15 : Fr [sl] HB H15 := F14.trans (f15.mono (by simp))
        have nw15 := f15.g0 nw14
        obtain ⟨S15, _, _⟩ := at_ H15 F15
        clear D1 f15 S14 s14 F14 nw14 S13 s13 F13 nw13 f14
        obtain ⟨m1, B1, d0, d1, d2⟩ := D1'
        one_sign
        refine z_ixL d0 (atI_nat (j := 0) rfl) ?_
        one_sign
        refine iteD (fun hw => ?_) (fun hw => ?_)
        · have hw1 : why1 R n ask = T [] := by
            unfold why at hw
            by_cases h1 : why1 R n ask ≠ T []
            · rw [if_pos h1] at hw; exact absurd hw h1
            · exact Classical.not_not.mp h1
          have hn' : n = r.nm := hn.resolve_right fun z => z (why1_nil hw1).2.1
          subst hn'
          rw [show csW R r.nm ask o = chs R (bh R r.nm ask o) r.nm R from if_pos hw] at d2 hcs
          obtain ⟨bk1, bk2⟩ := back_ok hI' (o := o) hrm hw1
          have g2 := g.bh r.nm ask o
          have wf2 := wf_bh (o := o) (show 5 ≤ 20 by decide) g wf hw1
          have hown2 := bh_own (n := r.nm) (a := ask) hown ho
          have hl2 : (bh R r.nm ask o).length ≤ 100 := by unfold bh; rw [List.length_map]; exact hR
          have hro := hI'.own r hrm
          have hrok : ∀ z ∈ r.own, Ok1 z := fun z hz => f8_ok z (hro.2.1 z hz)
          have ecs : csW (bh R r.nm ask o) r.nm r.ab r.own = (chs R (bh R r.nm ask o) r.nm R).map swp := by
            unfold csW
            rw [if_pos bk1, bh_back g.nd hrm, bk2]
          one_sign
          refine ⟨l, A, R, r.nm, ask, nw, o, rfl, S15, hR, nw15, fun H16 q3 B3 f16 hq3 SB2 => ?_⟩
          have F16 : Fr [sl] HB H16 := F15.trans (f16.mono (by simp))
          one_sign
          refine ⟨q3, B3, bh R r.nm ask o, r.nm, r.ab, oo, r.own, rfl, SB2, g2, hl2, wf2, hown2, ooX _ F16, by omega, fun z hz => by have := (hrok z hz).2; omega, fun z hz => (hrok z hz).1, fun H17 q4 f17 D4 => ?_⟩
          rw [bk1, ecs] at D4
          obtain ⟨m4, B4, b0, b1, b2⟩ := D4
          have f67 := f16.trans f17
          have d0' := f67.g0 d0
          have d1' := f67.g0 d1
          have d2' := d2.keep f67
          generalize chs R (bh R r.nm ask o) r.nm R = CS at *
          one_sign
          refine z_ixL b0 (atI_nat (j := 0) rfl) ?_
          one_sign
          refine iteND (fun h => absurd rfl h) (fun _ => ?_)
          one_sign
          refine z_ixL b0 (atI_nat (j := 1) rfl) ?_
          one_sign
          refine z_lcL b1 (fun i xs H' => ∃ M, xs = M.map V.ref ∧ R3s H' M ((CS.map fun c => ((c.nm, c.old, c.new) : T3)).take i)) (fun _ _ _ _ => ⟨[], rfl, rfl, fun i b c h _ => by cases h⟩) (fun Rr i xs' xs H18 hRr hi hil hxl hP hX f18 => ?_) (fun p5 xs H18 hp5 hP hxl hX f18 => ?_)
          · rw [List.getElem?_map] at hi
            obtain ⟨b, hb, rfl⟩ := Option.map_eq_some_iff.mp hi
            obtain ⟨M, rfl, RM⟩ := hP
            obtain ⟨c, hc⟩ : ∃ c, CS[i]? = some c := ⟨_, List.getElem?_eq_getElem (by have := (List.getElem?_eq_some_iff.mp hb).1; rw [b2.1, List.length_map] at this; exact this)⟩
            have hi5 := (List.getElem?_eq_some_iff.mp hc).1
            obtain ⟨t1, t2, t3, z0, z1, z2, z3⟩ := (b2.2 i b (swp c) hb (by rw [List.getElem?_map, hc]; rfl)).keep f18
            leaf_len
            refine z_ixL z0 (atI_nat (j := 0) rfl) ?_
            one_sign
            refine z_ixL z0 (atI_nat (j := 2) rfl) ?_
            one_sign
            refine z_ixL z0 (atI_nat (j := 1) rfl) ?_
            one_sign
            refine z_newL (by show 3 ≤ sizeLine; decide) fun b' H19 hb' f19 e19 => ?_
            refine z_lcY hRr (f19.g0 hX) (f18.trans f19) hxl (by have := hcs.1; rw [sizeLine_eq]; omega) fun H20 f20 _ _ => ?_
            refine ⟨M ++ [b'], by rw [List.map_append]; rfl, ?_⟩
            rw [List.take_succ, List.getElem?_map, hc]
            exact RM.step hX f19 hb' ⟨t2, t1, e19, f19.g0 z2, f19.g0 z1⟩ f20
          obtain ⟨M5, rfl, R5⟩ := hP
          rw [List.length_map, b2.1, List.length_map, ← List.length_map (f := fun c : Ch => ((c.nm, c.old, c.new) : T3)), List.take_length] at R5
          have d0'' := f18.g0 d0'
          have d1'' := f18.g0 d1'
          have d2'' := d2'.keep f18
          one_sign
          refine z_ixL d0'' (atI_nat (j := 1) rfl) ?_
          one_sign
          refine z_lcL d1'' (fun i xs H' => ∃ M, xs = M.map V.ref ∧ R3s H' M ((CS.map fun c => ((c.nm, c.old, c.new) : T3)).take i)) (fun _ _ _ _ => ⟨[], rfl, rfl, fun i b c h _ => by cases h⟩) (fun Rr i xs' xs H19 hRr hi hil hxl hP hX6 f19 => ?_) (fun p6 xs H19 hp6 hP hxl hX6 f19 => ?_)
          · rw [List.getElem?_map] at hi
            obtain ⟨b, hb, rfl⟩ := Option.map_eq_some_iff.mp hi
            obtain ⟨M, rfl, RM⟩ := hP
            obtain ⟨c, hc⟩ : ∃ c, CS[i]? = some c := ⟨_, List.getElem?_eq_getElem (by have := (List.getElem?_eq_some_iff.mp hb).1; rw [d2''.1] at this; exact this)⟩
            have hi5 := (List.getElem?_eq_some_iff.mp hc).1
            obtain ⟨t1, t2, t3, z0, z1, z2, z3⟩ := (d2''.2 i b c hb hc).keep f19
            leaf_len
            refine z_ixL z0 (atI_nat (j := 0) rfl) ?_
            one_sign
            refine z_ixL z0 (atI_nat (j := 1) rfl) ?_
            one_sign
            refine z_ixL z0 (atI_nat (j := 2) rfl) ?_
            one_sign
            refine z_newL (by show 3 ≤ sizeLine; decide) fun b' H20 hb' f20 e20 => ?_
            refine z_lcY hRr (f20.g0 hX6) (f19.trans f20) hxl (by have := hcs.1; rw [sizeLine_eq]; omega) fun H21 f21 _ _ => ?_
            refine ⟨M ++ [b'], by rw [List.map_append]; rfl, ?_⟩
            rw [List.take_succ, List.getElem?_map, hc]
            exact RM.step hX6 f20 hb' ⟨t1, t2, e20, f20.g0 z1, f20.g0 z2⟩ f21
          obtain ⟨M6, rfl, R6⟩ := hP
          rw [List.length_map, d2''.1, ← List.length_map (f := fun c : Ch => ((c.nm, c.old, c.new) : T3)), List.take_length] at R6
          have hsh : SeqAt.shaped (.list ((CS.map fun c => ((c.nm, c.old, c.new) : T3)).map t3D)) = true := t3s_shaped fun c hc => by
            obtain ⟨x, hx, rfl⟩ := List.mem_map.mp hc
            obtain ⟨y1, _, _, y4, y5⟩ := hcs.2 x hx
            exact ⟨y1, y4, y5⟩
          refine ⟨_, _, (R5.keep f19).dp (f19.g0 hX), R6.dp hX6, hsh, hsh, ?_⟩
          have hhd : PyData.hasDictAll ((CS.map fun c => ((c.nm, c.old, c.new) : T3)).map t3D) = false := hdAll fun c hc => by
            obtain ⟨x, hx, rfl⟩ := List.mem_map.mp hc
            obtain ⟨y1, _, _, y4, y5⟩ := hcs.2 x hx
            exact (t3_nice (c := (x.nm, x.old, x.new)) y1 y4 y5).hd
          rw [show PyData.eqv (.list ((CS.map fun c => ((c.nm, c.old, c.new) : T3)).map t3D)) (.list ((CS.map fun c => ((c.nm, c.old, c.new) : T3)).map t3D)) = true from eqv_selfAll _ hhd]
          one_sign
          have f1519 := (f67.trans f18).trans f19
          exact ⟨⟨_, _, _, _, _, _, _, _, _, _, _, _, _, rfl⟩, s15.keep f1519, F15.trans (f1519.mono (by simp))⟩
        · one_sign
          exact ⟨⟨_, _, _, _, _, _, _, _, _, _, _, _, _, rfl⟩, s15, F15⟩
    · obtain ⟨⟨v4, v5, v8, v9, v10, v11, v12, v13, v14, v15, v16, v17, v18, rfl⟩, s1, f1⟩ := hI
      one_sign
      refine z_newL (by show 1 ≤ sizeLine; decide) fun o1 H2 ho1 f2 e2 => ?_
      one_sign
      refine z_newL (by show 2 ≤ sizeLine; decide) fun n1 H3 hn1 f3 e3 => ?_
      one_sign
      intro x dx hx hdx nx
      refine mk_change (nm := T [65]) (old := [T [120]]) (new := [T [121], T [120]]) (f3.g0 e2) e3 (by decide) hx hdx nx fun H4 f4 C4 => ?_
      obtain ⟨cdx, t1, t2, t3, c0, c1, c2, c3⟩ := C4
      one_sign
      refine z_newL (by show 2 ≤ sizeLine; decide) fun t4 H5 ht4 f5 e5 => ?_
      refine ⟨_, _, Dp.tup (SqT.of (f5.g0 c3)) (.cons (dp_org _ _) (.cons (dp_org _ _) .nil)), Dp.tup (SqT.of e5) (.cons .non (.cons (.int 0) .nil)), by decide, by decide, ?_⟩
      refine ⟨true, by decide, iteT ?_⟩
      one_sign
      refine z_newL (by show 1 ≤ sizeLine; decide) fun f1' H6 hf6 f6 e6 => ?_
      intro x2 dx2 hx2 hdx2 nx2
      refine mk_kind (nm := T [65]) (sup := none) (fl := [T [120]]) rfl (Or.inl e6) hx2 hdx2 nx2 fun H7 f7 K7 => ?_
      obtain ⟨kdx, kt, k0, k1⟩ := K7
      one_sign
      refine z_newL (by show 1 ≤ sizeLine; decide) fun t5 H8 ht5 f8 e8 => ?_
      refine ⟨_, _, Dp.tup (SqT.of (f8.g0 k1)) (.cons (.str _) .nil), Dp.tup (SqT.of e8) (.cons (.str _) .nil), by decide +kernel, by decide +kernel, ?_⟩
      rw [show id (PyData.eqv (.tuple [.str (T [120])]) (.tuple [.str (T [120])])) = true from by decide]
      exact k H8
end

end LX
namespace LX
open PySem PySem.Spec PyProof.Rows L2 NdefX

theorem all_mk {l : PySem.W.OpenLaw} {w : World} {K : PySem.W.Frag} {mg : Str → Option Value} {fa : Addr} (W : Wd l.prog K mg) (hfa : mg "law" = some (.ref fa)) :
    ∃ fd : FuncData, (∀ (s : Shared) (v : Value), BindsTo s fd ⟨[v], []⟩ [("_law_script", v)]) ∧ ∀ base : Heap, K.In base → base.Ns mainGlobals mg → FnG GNone l.prog w K mg base CX0 6 fa fd ["_law_script"] (sp_law52 K) := by
  have e := hfa.symm.trans W.g_law
  cases e
  obtain ⟨oc, od, kV, doc, pm, an, cdv, ct, osl, e, _, _⟩ := W.F_law.ex
  exact ⟨W.fd_law, fun s v => by rw [e]; exact .of_eq rfl, fun base _ _ => ok_law W⟩
theorem walk {l : PySem.W.OpenLaw} {q : Program} {loose : List Str} {XP : (Str → Option Value) → Heap → Prop} {YP : World → Heap → Prop} {d : DefRec} {K : Params → PySem.W.Frag} (hn : l.most = some 63) (hdf : d.params.defaults = [])
    (hY : ∀ (w : World) (h : Heap), YP w h → (K w.params).In h)
    (F : ∀ (w : World) (mg : Str → Option Value) (fa : Addr) (h : Heap), (K w.params).In h → h.Ns mainGlobals mg → mg d.name = some (.ref fa) →
      ∃ fd : FuncData, (∀ (s : Shared) (u : Value), BindsTo s fd ⟨[u], []⟩ [("_law_script", u)]) ∧ ∀ base : Heap, (K w.params).In base → base.Ns mainGlobals mg → FnG GNone l.prog w (K w.params) mg base CX0 6 fa fd ["_law_script"] (sp_law52 (K w.params))) :
    PySem.W.WalkO q loose XP YP l.row.toRowW d [] (fun f vs => PySem.call f vs) :=
  walk_ofG (n := 63) (k := 6) (x := "_law_script") (sp := fun w => sp_law52 (K w.params)) hn (by decide) hdf ⟨rfl, by decide, by decide⟩ hY F (fun _ _ a ns hl _ hS => ⟨a, ns, rfl, hS, hl, fun _ => rfl⟩)

end LX

open PySem PySem.W PyProof.Rows
set_option maxRecDepth 100000 in
set_option maxHeartbeats 0 in
theorem PySem.Challenge.cw_saggar_k52_plans_of_changes_holds : PySem.Challenge.rw_saggar_k52_plans_of_changes.Holds := by
  w_on; o_law; k_head; (case hw => w_witness2)
  k_fill
  refine LX.walk (l := PySem.Challenge.rw_saggar_k52_plans_of_changes) rfl rfl (fun w h Y => PySem.W.kIn_of Y) ?F
  case F =>
    intro w mg fa h KX G hmg
    refine' LX.all_mk (l := PySem.Challenge.rw_saggar_k52_plans_of_changes) (LX.mkW KX G ?z_third ?z_super ?z_top ?z_sg ?z_st ?z_all ?z_int ?z_len ?z_list ?z_range ?z_repr ?z_set ?z_str ?z_tuple ?c_KERNEL ?tl_KERNEL ?c_MOST_FIELDS ?c_RESERVED ?tl_RESERVED ?cl_BadClass ?cl_Kind ?pg_Kind ?hd_Kind ?po_Kind ?sa_Kind ?mk_Kind ?kp_Kind ?na_Kind_name ?na_Kind_superclass ?na_Kind_fields ?cl_Change ?pg_Change ?hd_Change ?po_Change ?sa_Change ?mk_Change ?kp_Change ?na_Change_name ?na_Change_old ?na_Change_new ?na_Change_origins ?a_BadClass___init__ ?l_BadClass___init__ ?c_BadClass___init__ ?k_BadClass___init__ ?x1_BadClass___init__ ?x2_BadClass___init__ ?x3_BadClass___init__ ?x4_BadClass___init__ ?xl_BadClass ?xr_BadClass ?xs_BadClass ?xe_BadClass ?xt_BadClass ?xk_BadClass ?xm_BadClass ?xi_BadClass ?xb_BadClass ?eg_BadClass ?ek_BadClass ?ed_BadClass ?ea_BadClass ?em_BadClass ?xn_BadClass_why ?a_is_letter ?l_is_letter ?c_is_letter ?k_is_letter ?a_is_name ?l_is_name ?c_is_name ?k_is_name ?a_Kind___init__ ?l_Kind___init__ ?c_Kind___init__ ?k_Kind___init__ ?fn_Kind___init__ ?a_Change___init__ ?l_Change___init__ ?c_Change___init__ ?k_Change___init__ ?fn_Change___init__ ?a_origin_of ?l_origin_of ?c_origin_of ?k_origin_of ?a_kind_named ?l_kind_named ?c_kind_named ?k_kind_named ?a_all_fields ?l_all_fields ?c_all_fields ?k_all_fields ?a_is_under ?l_is_under ?c_is_under ?k_is_under ?a_check_change ?l_check_change ?c_check_change ?k_check_change ?a_changed_kinds ?l_changed_kinds ?c_changed_kinds ?k_changed_kinds ?a_plan_change ?l_plan_change ?c_plan_change ?k_plan_change ?a__law_draw ?l__law_draw ?c__law_draw ?k__law_draw ?a__law_kinds ?l__law_kinds ?c__law_kinds ?k__law_kinds ?a__law_all ?l__law_all ?c__law_all ?k__law_all ?a__law_under ?l__law_under ?c__law_under ?k__law_under ?a__law_good ?l__law_good ?c__law_good ?k__law_good ?a__law_why ?l__law_why ?c__law_why ?k__law_why ?a__law_behind ?l__law_behind ?c__law_behind ?k__law_behind ?a__law_planned ?l__law_planned ?c__law_planned ?k__law_planned ?a__law_due ?l__law_due ?c__law_due ?k__law_due ?a_law ?l_law ?c_law ?k_law ?qem_BB) hmg
    (case z_third => first | k_is | ks_is | rfl | decide +kernel)
    (case z_super => first | k_is | ks_is | rfl | decide +kernel)
    (case z_top => first | k_is | ks_is | rfl | decide +kernel)
    (case z_sg => first | k_is | ks_is | rfl | decide +kernel)
    (case z_st => first | k_is | ks_is | rfl | decide +kernel)
    (case z_all => first | k_is | ks_is | rfl | decide +kernel)
    (case z_int => first | k_is | ks_is | rfl | decide +kernel)
    (case z_len => first | k_is | ks_is | rfl | decide +kernel)
    (case z_list => first | k_is | ks_is | rfl | decide +kernel)
    (case z_range => first | k_is | ks_is | rfl | decide +kernel)
    (case z_repr => first | k_is | ks_is | rfl | decide +kernel)
    (case z_set => first | k_is | ks_is | rfl | decide +kernel)
    (case z_str => first | k_is | ks_is | rfl | decide +kernel)
    (case z_tuple => first | k_is | ks_is | rfl | decide +kernel)
    (case c_KERNEL => first | k_is | ks_is | rfl | decide +kernel)
    (case tl_KERNEL => first | k_is | ks_is | rfl | decide +kernel)
    (case c_MOST_FIELDS => first | k_is | ks_is | rfl | decide +kernel)
    (case c_RESERVED => first | k_is | ks_is | rfl | decide +kernel)
    (case tl_RESERVED => first | k_is | ks_is | rfl | decide +kernel)
    (case cl_BadClass => first | k_is | ks_is | rfl | decide +kernel)
    (case cl_Kind => first | k_is | ks_is | rfl | decide +kernel)
    (case pg_Kind => first | k_is | ks_is | rfl | decide +kernel)
    (case hd_Kind => first | k_is | ks_is | rfl | decide +kernel)
    (case po_Kind => first | k_is | ks_is | rfl | decide +kernel)
    (case sa_Kind => first | k_is | ks_is | rfl | decide +kernel)
    (case mk_Kind => first | k_is | ks_is | rfl | decide +kernel)
    (case kp_Kind => first | k_is | ks_is | rfl | decide +kernel)
    (case na_Kind_name => first | k_is | ks_is | rfl | decide +kernel)
    (case na_Kind_superclass => first | k_is | ks_is | rfl | decide +kernel)
    (case na_Kind_fields => first | k_is | ks_is | rfl | decide +kernel)
    (case cl_Change => first | k_is | ks_is | rfl | decide +kernel)
    (case pg_Change => first | k_is | ks_is | rfl | decide +kernel)
    (case hd_Change => first | k_is | ks_is | rfl | decide +kernel)
    (case po_Change => first | k_is | ks_is | rfl | decide +kernel)
    (case sa_Change => first | k_is | ks_is | rfl | decide +kernel)
    (case mk_Change => first | k_is | ks_is | rfl | decide +kernel)
    (case kp_Change => first | k_is | ks_is | rfl | decide +kernel)
    (case na_Change_name => first | k_is | ks_is | rfl | decide +kernel)
    (case na_Change_old => first | k_is | ks_is | rfl | decide +kernel)
    (case na_Change_new => first | k_is | ks_is | rfl | decide +kernel)
    (case na_Change_origins => first | k_is | ks_is | rfl | decide +kernel)
    (case a_BadClass___init__ => first | k_is | ks_is | rfl | decide +kernel)
    (case l_BadClass___init__ => first | k_is | ks_is | rfl | decide +kernel)
    (case c_BadClass___init__ => first | k_is | ks_is | rfl | decide +kernel)
    (case k_BadClass___init__ => first | k_is | ks_is | rfl | decide +kernel)
    (case x1_BadClass___init__ => first | k_is | ks_is | rfl | decide +kernel)
    (case x2_BadClass___init__ => first | k_is | ks_is | rfl | decide +kernel)
    (case x3_BadClass___init__ => first | k_is | ks_is | rfl | decide +kernel)
    (case x4_BadClass___init__ => first | k_is | ks_is | rfl | decide +kernel)
    (case xl_BadClass => first | k_is | ks_is | rfl | decide +kernel)
    (case xr_BadClass => first | k_is | ks_is | rfl | decide +kernel)
    (case xs_BadClass => first | k_is | ks_is | rfl | decide +kernel)
    (case xe_BadClass => first | k_is | ks_is | rfl | decide +kernel)
    (case xt_BadClass => first | k_is | ks_is | rfl | decide +kernel)
    (case xk_BadClass => first | k_is | ks_is | rfl | decide +kernel)
    (case xm_BadClass => first | k_is | ks_is | rfl | decide +kernel)
    (case xi_BadClass => first | k_is | ks_is | rfl | decide +kernel)
    (case xb_BadClass => first | k_is | ks_is | rfl | decide +kernel)
    (case eg_BadClass => first | k_is | ks_is | rfl | decide +kernel)
    (case ek_BadClass => first | k_is | ks_is | rfl | decide +kernel)
    (case ed_BadClass => first | k_is | ks_is | rfl | decide +kernel)
    (case ea_BadClass => first | k_is | ks_is | rfl | decide +kernel)
    (case em_BadClass => first | k_is | ks_is | rfl | decide +kernel)
    (case xn_BadClass_why => first | k_is | ks_is | rfl | decide +kernel)
    (case a_is_letter => first | k_is | ks_is | rfl | decide +kernel)
    (case l_is_letter => first | k_is | ks_is | rfl | decide +kernel)
    (case c_is_letter => first | k_is | ks_is | rfl | decide +kernel)
    (case k_is_letter => first | k_is | ks_is | rfl | decide +kernel)
    (case a_is_name => first | k_is | ks_is | rfl | decide +kernel)
    (case l_is_name => first | k_is | ks_is | rfl | decide +kernel)
    (case c_is_name => first | k_is | ks_is | rfl | decide +kernel)
    (case k_is_name => first | k_is | ks_is | rfl | decide +kernel)
    (case a_Kind___init__ => first | k_is | ks_is | rfl | decide +kernel)
    (case l_Kind___init__ => first | k_is | ks_is | rfl | decide +kernel)
    (case c_Kind___init__ => first | k_is | ks_is | rfl | decide +kernel)
    (case k_Kind___init__ => first | k_is | ks_is | rfl | decide +kernel)
    (case fn_Kind___init__ => first | k_is | ks_is | rfl | decide +kernel)
    (case a_Change___init__ => first | k_is | ks_is | rfl | decide +kernel)
    (case l_Change___init__ => first | k_is | ks_is | rfl | decide +kernel)
    (case c_Change___init__ => first | k_is | ks_is | rfl | decide +kernel)
    (case k_Change___init__ => first | k_is | ks_is | rfl | decide +kernel)
    (case fn_Change___init__ => first | k_is | ks_is | rfl | decide +kernel)
    (case a_origin_of => first | k_is | ks_is | rfl | decide +kernel)
    (case l_origin_of => first | k_is | ks_is | rfl | decide +kernel)
    (case c_origin_of => first | k_is | ks_is | rfl | decide +kernel)
    (case k_origin_of => first | k_is | ks_is | rfl | decide +kernel)
    (case a_kind_named => first | k_is | ks_is | rfl | decide +kernel)
    (case l_kind_named => first | k_is | ks_is | rfl | decide +kernel)
    (case c_kind_named => first | k_is | ks_is | rfl | decide +kernel)
    (case k_kind_named => first | k_is | ks_is | rfl | decide +kernel)
    (case a_all_fields => first | k_is | ks_is | rfl | decide +kernel)
    (case l_all_fields => first | k_is | ks_is | rfl | decide +kernel)
    (case c_all_fields => first | k_is | ks_is | rfl | decide +kernel)
    (case k_all_fields => first | k_is | ks_is | rfl | decide +kernel)
    (case a_is_under => first | k_is | ks_is | rfl | decide +kernel)
    (case l_is_under => first | k_is | ks_is | rfl | decide +kernel)
    (case c_is_under => first | k_is | ks_is | rfl | decide +kernel)
    (case k_is_under => first | k_is | ks_is | rfl | decide +kernel)
    (case a_check_change => first | k_is | ks_is | rfl | decide +kernel)
    (case l_check_change => first | k_is | ks_is | rfl | decide +kernel)
    (case c_check_change => first | k_is | ks_is | rfl | decide +kernel)
    (case k_check_change => first | k_is | ks_is | rfl | decide +kernel)
    (case a_changed_kinds => first | k_is | ks_is | rfl | decide +kernel)
    (case l_changed_kinds => first | k_is | ks_is | rfl | decide +kernel)
    (case c_changed_kinds => first | k_is | ks_is | rfl | decide +kernel)
    (case k_changed_kinds => first | k_is | ks_is | rfl | decide +kernel)
    (case a_plan_change => first | k_is | ks_is | rfl | decide +kernel)
    (case l_plan_change => first | k_is | ks_is | rfl | decide +kernel)
    (case c_plan_change => first | k_is | ks_is | rfl | decide +kernel)
    (case k_plan_change => first | k_is | ks_is | rfl | decide +kernel)
    (case a__law_draw => first | k_is | ks_is | rfl | decide +kernel)
    (case l__law_draw => first | k_is | ks_is | rfl | decide +kernel)
    (case c__law_draw => first | k_is | ks_is | rfl | decide +kernel)
    (case k__law_draw => first | k_is | ks_is | rfl | decide +kernel)
    (case a__law_kinds => first | k_is | ks_is | rfl | decide +kernel)
    (case l__law_kinds => first | k_is | ks_is | rfl | decide +kernel)
    (case c__law_kinds => first | k_is | ks_is | rfl | decide +kernel)
    (case k__law_kinds => first | k_is | ks_is | rfl | decide +kernel)
    (case a__law_all => first | k_is | ks_is | rfl | decide +kernel)
    (case l__law_all => first | k_is | ks_is | rfl | decide +kernel)
    (case c__law_all => first | k_is | ks_is | rfl | decide +kernel)
    (case k__law_all => first | k_is | ks_is | rfl | decide +kernel)
    (case a__law_under => first | k_is | ks_is | rfl | decide +kernel)
    (case l__law_under => first | k_is | ks_is | rfl | decide +kernel)
    (case c__law_under => first | k_is | ks_is | rfl | decide +kernel)
    (case k__law_under => first | k_is | ks_is | rfl | decide +kernel)
    (case a__law_good => first | k_is | ks_is | rfl | decide +kernel)
    (case l__law_good => first | k_is | ks_is | rfl | decide +kernel)
    (case c__law_good => first | k_is | ks_is | rfl | decide +kernel)
    (case k__law_good => first | k_is | ks_is | rfl | decide +kernel)
    (case a__law_why => first | k_is | ks_is | rfl | decide +kernel)
    (case l__law_why => first | k_is | ks_is | rfl | decide +kernel)
    (case c__law_why => first | k_is | ks_is | rfl | decide +kernel)
    (case k__law_why => first | k_is | ks_is | rfl | decide +kernel)
    (case a__law_behind => first | k_is | ks_is | rfl | decide +kernel)
    (case l__law_behind => first | k_is | ks_is | rfl | decide +kernel)
    (case c__law_behind => first | k_is | ks_is | rfl | decide +kernel)
    (case k__law_behind => first | k_is | ks_is | rfl | decide +kernel)
    (case a__law_planned => first | k_is | ks_is | rfl | decide +kernel)
    (case l__law_planned => first | k_is | ks_is | rfl | decide +kernel)
    (case c__law_planned => first | k_is | ks_is | rfl | decide +kernel)
    (case k__law_planned => first | k_is | ks_is | rfl | decide +kernel)
    (case a__law_due => first | k_is | ks_is | rfl | decide +kernel)
    (case l__law_due => first | k_is | ks_is | rfl | decide +kernel)
    (case c__law_due => first | k_is | ks_is | rfl | decide +kernel)
    (case k__law_due => first | k_is | ks_is | rfl | decide +kernel)
    (case a_law => first | k_is | ks_is | rfl | decide +kernel)
    (case l_law => first | k_is | ks_is | rfl | decide +kernel)
    (case c_law => first | k_is | ks_is | rfl | decide +kernel)
    (case k_law => first | k_is | ks_is | rfl | decide +kernel)
    (case qem_BB => first | k_is | ks_is | rfl | decide +kernel)
    all_goals first | exact PySem.Value.none | exact none | exact (0 : PySem.Addr)

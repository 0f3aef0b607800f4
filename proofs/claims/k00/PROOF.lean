import PyProof.Rows.All
import Wide.All
import OpenK.AllK
import Wide.FinOn
import KE.KExcSuper
import HandS.ForMost
import HandS.ForExc
import HandS.ExcInit
import HandS.Nested
import HandS.Flow
import HandS.IsInst
import HandS.Wide
import HandS.StrMore
import HandS.RaiseMore
import HandS.TupAny
import HandS.Style
import HandS.NoneIn
import HandS.Conv
import HandS.Deep
import HandS.Small
import HandS.Evl
import HandS.SortInts
import HandS.More
import HandS.HotCalls
import HandS.ExcCtx
import HandS.ExcField
import HandS.ExcIs
import KE.KExcIs
import HandS.TryMany
import HandS.HeadWalk
import PySem.Challenge.RW_saggar_k00_words_back_and_forth
set_option Elab.async false
set_option linter.all false
set_option maxRecDepth 100000
set_option maxHeartbeats 4000000
/-! universal rules: by the values' constructors -/
namespace LX
open PySem PySem.Spec PyProof.Rows L2
section
variable {X : Cx}
/-! ### operators -/
def rAddU (K : PySem.W.Frag) : R2 := fun x y H Q => match x, y with
  | .int i, .int j => Q (.int (i + j)) H
  | .str i, .str j => i.length + j.length ≤ sizeLine ∧ Q (.str (i ++ j)) H
  | .ref a, .ref b => rCat (.ref a) (.ref b) H Q ∨ rCatA K (.ref a) (.ref b) H Q
  | _, _ => False
theorem op_addU : OpR X (binaryOp .Add) (rAddU X.K) := by
  intro pins s σ H x y v u Q I rx ry h
  unfold rAddU at h
  split at h
  · exact op_add pins s σ H _ _ v u Q I rx ry ⟨_, _, rfl, rfl, h⟩
  · exact op_add_str pins s σ H _ _ v u Q I rx ry ⟨_, _, rfl, rfl, h.1, h.2⟩
  · rcases h with h | h
    · exact op_cat pins s σ H _ _ v u Q I rx ry h
    · exact op_catA pins s σ H _ _ v u Q I rx ry h
  · exact h.elim
def rMulU : R2 := fun x y H Q => match x, y with
  | .int i, .int j => CMul i j ∧ Q (.int (i * j)) H
  | .ref a, .int j => rRep (.ref a) (.int j) H Q
  | _, _ => False
theorem op_mulU : OpR X (binaryOp .Mult) rMulU := by
  intro pins s σ H x y v u Q I rx ry h
  unfold rMulU at h
  split at h
  · exact op_mul pins s σ H _ _ v u Q I rx ry ⟨_, _, rfl, rfl, h.1, h.2⟩
  · exact op_rep pins s σ H _ _ v u Q I rx ry h
  · exact h.elim
/-- an order by ints, by texts -/
def rOrd (f : Int → Int → Bool) (g : List Nat → List Nat → Bool) : R2 := fun x y H Q => match x, y with
  | .int i, .int j => Q (.bl (f i j)) H
  | .str i, .str j => Q (.bl (g i.cps.toList j.cps.toList)) H
  | _, _ => False
abbrev rLtU : R2 := rOrd (fun i j => decide (i < j)) (fun i j => decide (i < j))
abbrev rLeU : R2 := rOrd (fun i j => decide (i ≤ j)) (fun i j => !decide (j < i))
abbrev rGtU : R2 := rOrd (fun i j => decide (j < i)) (fun i j => decide (j < i))
abbrev rGeU : R2 := rOrd (fun i j => decide (j ≤ i)) (fun i j => !decide (i < j))
theorem op_ltU : OpR X (compareOp .Lt) rLtU := by
  intro pins s σ H x y v u Q I rx ry h
  unfold rLtU rOrd at h
  split at h
  · exact op_lt pins s σ H _ _ v u Q I rx ry ⟨_, _, rfl, rfl, h⟩
  · exact op_lt_str pins s σ H _ _ v u Q I rx ry ⟨_, _, rfl, rfl, h⟩
  · exact h.elim
theorem op_leU : OpR X (compareOp .LtE) rLeU := by
  intro pins s σ H x y v u Q I rx ry h
  unfold rLeU rOrd at h
  split at h
  · exact op_le pins s σ H _ _ v u Q I rx ry ⟨_, _, rfl, rfl, h⟩
  · exact op_le_str pins s σ H _ _ v u Q I rx ry ⟨_, _, rfl, rfl, h⟩
  · exact h.elim
theorem op_gtU : OpR X (compareOp .Gt) rGtU := by
  intro pins s σ H x y v u Q I rx ry h
  unfold rGtU rOrd at h
  split at h
  · exact op_gt pins s σ H _ _ v u Q I rx ry ⟨_, _, rfl, rfl, h⟩
  · exact op_gt_str pins s σ H _ _ v u Q I rx ry ⟨_, _, rfl, rfl, h⟩
  · exact h.elim
theorem op_geU : OpR X (compareOp .GtE) rGeU := by
  intro pins s σ H x y v u Q I rx ry h
  unfold rGeU rOrd at h
  split at h
  · exact op_ge pins s σ H _ _ v u Q I rx ry ⟨_, _, rfl, rfl, h⟩
  · exact op_ge_str pins s σ H _ _ v u Q I rx ry ⟨_, _, rfl, rfl, h⟩
  · exact h.elim
/-- ==, != : two objects (deep), else by value -/
def rEqU (K : PySem.W.Frag) (g : Bool → Bool) : R2 := fun x y H Q => match x, y with
  | .ref a, .ref b => ∃ d e, Dp K H (.ref a) d ∧ Dp K H (.ref b) e ∧ SeqAt.shaped d = true ∧ SeqAt.shaped e = true ∧ Q (.bl (g (PyData.eqv d e))) H
  | x, y => scal x y = true ∧ Q (.bl (g (decide (x = y)))) H
theorem op_eqU (hu : X.A.units + 64 < cLine) : OpR X (compareOp .Eq) (rEqU X.K id) := by
  intro pins s σ H x y v u Q I rx ry h
  unfold rEqU at h
  split at h
  · exact op_eqD hu pins s σ H _ _ v u Q I rx ry h
  · exact op_eq pins s σ H _ _ v u Q I rx ry h
theorem op_neU (hu : X.A.units + 64 < cLine) : OpR X (compareOp .NotEq) (rEqU X.K (!·)) := by
  intro pins s σ H x y v u Q I rx ry h
  unfold rEqU at h
  split at h
  · exact op_neD hu pins s σ H _ _ v u Q I rx ry h
  · exact op_ne pins s σ H _ _ v u Q I rx ry h
/-- x is None, True, False -/
def rIsU (g : Bool → Bool) : R2 := fun x y H Q => match y with
  | .non => Q (.bl (g (decide (x = .non)))) H
  | .bl b => Q (.bl (g (decide (x = .bl b)))) H
  | _ => False
theorem op_isU : OpR X (compareOp .Is) (rIsU id) := by
  intro pins s σ H x y v u Q I rx ry h
  unfold rIsU at h
  split at h
  · exact op_isN pins s σ H _ _ v u Q I rx ry ⟨rfl, h⟩
  · rename_i b
    cases (show u = Value.bool b from ry)
    by_cases e : x = .bl b
    · subst e
      cases (show v = Value.bool b from rx)
      exact wpAny_is_self rfl ⟨.bl true, H, I, rfl, by simpa using h⟩
    · refine wpAny_is_other ?_ ?_ ⟨.bl false, H, I, rfl, by simpa [e] using h⟩
      · first | rfl | (cases x <;> first | rfl | (cases rx; rfl) | (obtain ⟨t, rfl⟩ := rx; rfl))
      · intro z
        subst z
        exact e (RelV.inj rx rfl)
  · exact h.elim
theorem op_isnotU : OpR X (compareOp .IsNot) (rIsU (!·)) := by
  intro pins s σ H x y v u Q I rx ry h
  unfold rIsU at h
  split at h
  · exact op_notN pins s σ H _ _ v u Q I rx ry ⟨rfl, h⟩
  · rename_i b
    cases (show u = Value.bool b from ry)
    by_cases e : x = .bl b
    · subst e
      cases (show v = Value.bool b from rx)
      exact wpAny_isNot_self rfl ⟨.bl false, H, I, rfl, by simpa using h⟩
    · refine wpAny_isNot_other ?_ ?_ ⟨.bl true, H, I, rfl, by simpa [e] using h⟩
      · first | rfl | (cases x <;> first | rfl | (cases rx; rfl) | (obtain ⟨t, rfl⟩ := rx; rfl))
      · intro z
        subst z
        exact e (RelV.inj rx rfl)
  · exact h.elim
/-! ### subscripts, slices, in -/
def rIxU (K : PySem.W.Frag) : R2 := fun x y H Q => match x with
  | .str z => ∃ i c, y = .int i ∧ z.length ≤ sizeLine ∧ atI z.cps.toList i = some c ∧ Q (.str ⟨#[c]⟩) H
  | .ref p => (∃ xs i v, y = .int i ∧ (SqL K H p xs ∨ SqT K H p xs) ∧ atI xs i = some v ∧ Q v H) ∨ (∃ v, DGet H p y (some v) ∧ Q v H)
  | _ => False
theorem ix_U (hu : X.A.units + 1 < cLine) : IxR X (rIxU X.K) := by
  intro value slice pins s σ H x y v u Q I rx ry h hs
  unfold rIxU at h
  split at h
  · obtain ⟨i, c, rfl, h1, h2, q⟩ := h
    exact ix_str value slice pins s σ H _ _ v u Q I rx ry ⟨_, _, _, rfl, rfl, h1, h2, q⟩ hs
  · rcases h with ⟨xs, i, w', rfl, h1 | h1, h2, q⟩ | ⟨w', g, q⟩
    · exact ix_list value slice pins s σ H _ _ v u Q I rx ry ⟨_, _, _, _, rfl, rfl, h1, h2, q⟩ hs
    · exact ix_tup value slice pins s σ H _ _ v u Q I rx ry ⟨_, _, _, _, rfl, rfl, h1, h2, q⟩ hs
    · rename_i p
      obtain rfl : v = Value.ref p := rx
      exact tail_any (dict_typeIs I g) PySem.F.slot_dict_getitem.lookup (d_getItem hu I g ry fun w2 s2 I2 rw2 => ⟨w', H, I2, rw2, q⟩) hs
  · exact h.elim
def rSlU (K : PySem.W.Frag) : V → Option Int → Option Int → Hp → VK → Prop := fun x lo hi H Q => match x with
  | .str z => z.length ≤ sizeLine ∧ Q (.str (cutS z lo hi)) H
  | .ref a => rSlL K (.ref a) lo hi H Q ∨ rSlA K (.ref a) lo hi H Q
  | _ => False
theorem sl_U : SlR X (rSlU X.K) := by
  intro pins s σ H x v vl vu lo hi sl Q I rx hs pl pu h
  unfold rSlU at h
  split at h
  · exact sl_str pins s σ H _ v vl vu lo hi sl Q I rx hs pl pu ⟨_, rfl, h.1, h.2⟩
  · rcases h with h | h
    · exact sl_list pins s σ H _ v vl vu lo hi sl Q I rx hs pl pu h
    · exact sl_tupA pins s σ H _ v vl vu lo hi sl Q I rx hs pl pu h
  · exact h.elim
/-- in, not in -/
def rInU (K : PySem.W.Frag) (g : Bool → Bool) : R2 := fun x y H Q => match y with
  | .str z => (∃ c : Nat, x = .str ⟨#[c]⟩ ∧ Q (.bl (g (decide (c ∈ z.cps.toList)))) H) ∨ ∃ i, x = .str i ∧ Q (.bl (g (!(Builtin.Str.occurrences z i 0 z.length 1).isEmpty))) H
  | .ref p => (∃ xs, (SqL K H p xs ∨ SqT K H p xs) ∧ flatV x = true ∧ xs.all flatV = true ∧ Q (.bl (g (inV x xs))) H) ∨ (∃ o, DGet H p x o ∧ Q (.bl (g o.isSome)) H)
  | _ => False
theorem op_inU (hu : X.A.units + 1 < cLine) : OpR X (compareOp .In) (rInU X.K id) := by
  intro pins s σ H x y v u Q I rx ry h
  unfold rInU at h
  split at h
  · rcases h with ⟨c, rfl, q⟩ | ⟨i, rfl, q⟩
    · exact op_in_sign pins s σ H _ _ v u Q I rx ry ⟨_, _, rfl, rfl, q⟩
    · exact op_in_str pins s σ H _ _ v u Q I rx ry ⟨_, _, rfl, rfl, q⟩
  · rcases h with ⟨xs, h1, h2, h3, q⟩ | ⟨o, g, q⟩
    · exact op_in_seq pins s σ H _ _ v u Q I rx ry ⟨_, xs, rfl, h1, h2, h3, q⟩
    · rename_i p
      obtain rfl : u = Value.ref p := ry
      exact d_in hu I g rx fun s3 I3 => ⟨.bl o.isSome, H, I3, rfl, q⟩
  · exact h.elim
theorem op_ninU (hu : X.A.units + 1 < cLine) : OpR X (compareOp .NotIn) (rInU X.K (!·)) := by
  intro pins s σ H x y v u Q I rx ry h
  unfold rInU at h
  split at h
  · rcases h with ⟨c, rfl, q⟩ | ⟨i, rfl, q⟩
    · exact op_notIn_sign pins s σ H _ _ v u Q I rx ry ⟨_, _, rfl, rfl, q⟩
    · exact op_notin_str pins s σ H _ _ v u Q I rx ry ⟨_, _, rfl, rfl, q⟩
  · rcases h with ⟨xs, h1, h2, h3, q⟩ | ⟨o, g, q⟩
    · exact op_notIn_seq pins s σ H _ _ v u Q I rx ry ⟨_, xs, rfl, h1, h2, h3, q⟩
    · rename_i p
      obtain rfl : u = Value.ref p := ry
      exact d_notIn hu I g rx fun s3 I3 => ⟨.bl (!o.isSome), H, I3, rfl, q⟩
  · exact h.elim
/-! ### calls -/
def rLenU (K : PySem.W.Frag) : List V → Hp → VK → Prop := fun xs H Q => match xs with
  | [.str z] => z.length ≤ sizeLine ∧ Q (.int z.length) H
  | [.ref p] => (∃ ys, (SqL K H p ys ∨ SqT K H p ys) ∧ Q (.int ys.length) H) ∨ ∃ kvs, H p = some (.dK kvs) ∧ Q (.int kvs.length) H
  | _ => False
theorem call_lenU : CallR X (.builtin "len") (rLenU X.K) := by
  intro pins s σ H xs us Q I r h
  unfold rLenU at h
  split at h
  · exact call_len_str pins s σ H _ us Q I r ⟨_, rfl, h.1, h.2⟩
  · rcases h with ⟨ys, h1, q⟩ | ⟨kvs, h1, q⟩
    · exact call_len_seq pins s σ H _ us Q I r ⟨_, ys, rfl, h1, q⟩
    · exact call_lenD pins s σ H _ us Q I r ⟨_, kvs, rfl, h1, q⟩
  · exact h.elim
def rIntU : List V → Hp → VK → Prop := fun xs H Q => match xs with
  | [.int i] => Q (.int i) H
  | [.bl k] => Q (.int (if k then 1 else 0)) H
  | [.str a] => ∃ n, PySem.intText? a = some n ∧ a.length ≤ 640 ∧ Q (.int n) H
  | _ => False
theorem call_intU : CallR X (.type "int") rIntU := by
  intro pins s σ H xs us Q I r h
  unfold rIntU at h
  split at h
  · exact call_int1 pins s σ H _ us Q I r (.inl ⟨_, rfl, h⟩)
  · exact call_int1 pins s σ H _ us Q I r (.inr ⟨_, rfl, h⟩)
  · obtain ⟨n, h1, h2, q⟩ := h
    exact call_int_str pins s σ H _ us Q I r ⟨_, n, rfl, h1, h2, q⟩
  · exact h.elim
def rStrU : List V → Hp → VK → Prop := fun xs H Q => match xs with
  | [.int i] => i.natAbs.log2 < 1920 ∧ Q (.str (toString i)) H
  | [.str a] => Q (.str a) H
  | _ => False
theorem call_strU : CallR X (.type "str") rStrU := by
  intro pins s σ H xs us Q I r h
  unfold rStrU at h
  split at h
  · exact call_str_int pins s σ H _ us Q I r ⟨_, rfl, h.1, h.2⟩
  · exact SkE.call_str_str pins s σ H _ us Q I r ⟨_, rfl, h⟩
  · exact h.elim
/-- isinstance: a built-in type or an own class -/
def rIsU2 (K : PySem.W.Frag) : List V → Hp → VK → Prop := fun xs H Q => ∃ (x c : V) (t u : Value) (b : Bool), xs = [x, c] ∧ ClsV c u ∧ TyX K H x t ∧ PySem.W.kitOne K t u = some b ∧ Q (.bl b) H
end
theorem hu64_of {A : Around} {k : Nat} (hr : Room k A) : A.units + 64 < cLine := by have := hr.un; omega
theorem ite_eq {c d : Bool} {A B : Prop} (e : c = d) (h : if d = true then A else B) : if c = true then A else B := by rw [e]; exact h
theorem iteD {c : Prop} [Decidable c] {A B : Prop} (h1 : c → A) (h2 : ¬ c → B) : if decide c = true then A else B := by
  by_cases h : c
  · rw [decide_eq_true h]; exact iteT (h1 h)
  · rw [decide_eq_false h]; exact iteF (h2 h)
theorem iteND {c : Prop} [Decidable c] {A B : Prop} (h1 : ¬ c → A) (h2 : c → B) : if (!decide c) = true then A else B := by
  by_cases h : c
  · rw [decide_eq_true h]; exact iteF (h2 h)
  · rw [decide_eq_false h]; exact iteT (h1 h)
/-- a text by its signs -/
abbrev T (l : List Nat) : Str := ⟨l.toArray⟩
theorem T_of (z : Str) : z = T z.cps.toList := rfl
theorem T_inj {a b : List Nat} (h : T a = T b) : a = b := congrArg (fun x : Str => x.cps.toList) h
theorem T_app (a b : List Nat) : T a ++ T b = T (a ++ b) := by
  show (⟨a.toArray ++ b.toArray⟩ : Str) = ⟨(a ++ b).toArray⟩
  simp
theorem T_dec (a b : List Nat) : decide (V.str (T a) = V.str (T b)) = decide (a = b) := by
  by_cases h : a = b
  · subst h; simp
  · have : ¬ V.str (T a) = V.str (T b) := fun z => h (T_inj (V.str.inj z))
    rw [decide_eq_false this, decide_eq_false h]
theorem I_dec (a b : Int) : decide (V.int a = V.int b) = decide (a = b) := by
  by_cases h : a = b
  · subst h; simp
  · have : ¬ V.int a = V.int b := fun z => h (V.int.inj z)
    rw [decide_eq_false this, decide_eq_false h]
theorem B_dec (a b : Bool) : decide (V.bl a = V.bl b) = (a == b) := by cases a <;> cases b <;> rfl
theorem pe_strT {X : Cx} {x : Str} {l : List Nat} {j : Nat} {pos : Pos} (e : x = T l) : PE X (.Constant (.str x) j pos) (tC (.str (T l))) := by subst e; exact pe_str
theorem pv_some {X : Cx} : True := True.intro
theorem bb_len : bootBuiltins "len" = some (.builtin "len") := by first | rfl | decide +kernel
theorem bb_isinstance : bootBuiltins "isinstance" = some (.builtin "isinstance") := by first | rfl | decide +kernel
theorem bb_abs : bootBuiltins "abs" = some (.builtin "abs") := by first | rfl | decide +kernel
theorem bb_sorted : bootBuiltins "sorted" = some (.builtin "sorted") := by first | rfl | decide +kernel
theorem bb_min : bootBuiltins "min" = some (.builtin "min") := by first | rfl | decide +kernel
theorem bb_max : bootBuiltins "max" = some (.builtin "max") := by first | rfl | decide +kernel
theorem bb_sum : bootBuiltins "sum" = some (.builtin "sum") := by first | rfl | decide +kernel
theorem bb_all : bootBuiltins "all" = some (.builtin "all") := by first | rfl | decide +kernel
theorem bb_any : bootBuiltins "any" = some (.builtin "any") := by first | rfl | decide +kernel
theorem bb_repr : bootBuiltins "repr" = some (.builtin "repr") := by first | rfl | decide +kernel
theorem bb_int : bootBuiltins "int" = some (.type "int") := by first | rfl | decide +kernel
theorem bb_str : bootBuiltins "str" = some (.type "str") := by first | rfl | decide +kernel
theorem bb_bool : bootBuiltins "bool" = some (.type "bool") := by first | rfl | decide +kernel
theorem bb_list : bootBuiltins "list" = some (.type "list") := by first | rfl | decide +kernel
theorem bb_dict : bootBuiltins "dict" = some (.type "dict") := by first | rfl | decide +kernel
theorem bb_tuple : bootBuiltins "tuple" = some (.type "tuple") := by first | rfl | decide +kernel
theorem bb_set : bootBuiltins "set" = some (.type "set") := by first | rfl | decide +kernel
theorem bb_ValueError : bootBuiltins "ValueError" = some (.type "ValueError") := by first | rfl | decide +kernel
theorem pe_gi {X : Cx} {x : Str} {z : Int} {t : Tok} {pos : Pos} (hg : Gl X x) (hm : X.mg x = some (.int z t)) (hd : (x == ("__debug__" : Str)) = false := by decide) : PE X (.Name x pos) (tC (.int z)) := pe_glob hg hm ⟨_, rfl⟩ hd
theorem pe_gs {X : Cx} {x : Str} {z : Str} {t : Tok} {pos : Pos} (hg : Gl X x) (hm : X.mg x = some (.str z t)) (hd : (x == ("__debug__" : Str)) = false := by decide) : PE X (.Name x pos) (tC (.str z)) := pe_glob hg hm ⟨_, rfl⟩ hd
theorem pe_gr {X : Cx} {x : Str} {a : Addr} {pos : Pos} (hg : Gl X x) (hm : X.mg x = some (.ref a)) (hd : (x == ("__debug__" : Str)) = false := by decide) : PE X (.Name x pos) (tC (.ref a)) := pe_glob hg hm rfl hd
theorem pe_bt {X : Cx} {x : Str} {n : String} {pos : Pos} (hg : Gl X x) (hm : X.mg x = none) (hv : bootBuiltins x = some (.type n)) (hn : x ≠ "__name__" := by decide) (hd : (x == ("__debug__" : Str)) = false := by decide) : PE X (.Name x pos) (tC (.ty n)) := pe_bltn hg hm hv rfl hn hd
/-! isinstance against built-in types -/
theorem kt_int_int {K : PySem.W.Frag} : PySem.W.kitOne K (.type "int") (.type "int") = some true := kit_ty (by decide +kernel)
theorem kt_int_bool {K : PySem.W.Frag} : PySem.W.kitOne K (.type "int") (.type "bool") = some false := kit_ty (by decide +kernel)
theorem kt_int_str {K : PySem.W.Frag} : PySem.W.kitOne K (.type "int") (.type "str") = some false := kit_ty (by decide +kernel)
theorem kt_int_list {K : PySem.W.Frag} : PySem.W.kitOne K (.type "int") (.type "list") = some false := kit_ty (by decide +kernel)
theorem kt_int_tuple {K : PySem.W.Frag} : PySem.W.kitOne K (.type "int") (.type "tuple") = some false := kit_ty (by decide +kernel)
theorem kt_int_dict {K : PySem.W.Frag} : PySem.W.kitOne K (.type "int") (.type "dict") = some false := kit_ty (by decide +kernel)
theorem kt_bool_int {K : PySem.W.Frag} : PySem.W.kitOne K (.type "bool") (.type "int") = some true := kit_ty (by decide +kernel)
theorem kt_bool_bool {K : PySem.W.Frag} : PySem.W.kitOne K (.type "bool") (.type "bool") = some true := kit_ty (by decide +kernel)
theorem kt_bool_str {K : PySem.W.Frag} : PySem.W.kitOne K (.type "bool") (.type "str") = some false := kit_ty (by decide +kernel)
theorem kt_bool_list {K : PySem.W.Frag} : PySem.W.kitOne K (.type "bool") (.type "list") = some false := kit_ty (by decide +kernel)
theorem kt_bool_tuple {K : PySem.W.Frag} : PySem.W.kitOne K (.type "bool") (.type "tuple") = some false := kit_ty (by decide +kernel)
theorem kt_bool_dict {K : PySem.W.Frag} : PySem.W.kitOne K (.type "bool") (.type "dict") = some false := kit_ty (by decide +kernel)
theorem kt_str_int {K : PySem.W.Frag} : PySem.W.kitOne K (.type "str") (.type "int") = some false := kit_ty (by decide +kernel)
theorem kt_str_bool {K : PySem.W.Frag} : PySem.W.kitOne K (.type "str") (.type "bool") = some false := kit_ty (by decide +kernel)
theorem kt_str_str {K : PySem.W.Frag} : PySem.W.kitOne K (.type "str") (.type "str") = some true := kit_ty (by decide +kernel)
theorem kt_str_list {K : PySem.W.Frag} : PySem.W.kitOne K (.type "str") (.type "list") = some false := kit_ty (by decide +kernel)
theorem kt_str_tuple {K : PySem.W.Frag} : PySem.W.kitOne K (.type "str") (.type "tuple") = some false := kit_ty (by decide +kernel)
theorem kt_str_dict {K : PySem.W.Frag} : PySem.W.kitOne K (.type "str") (.type "dict") = some false := kit_ty (by decide +kernel)
theorem kt_list_int {K : PySem.W.Frag} : PySem.W.kitOne K (.type "list") (.type "int") = some false := kit_ty (by decide +kernel)
theorem kt_list_bool {K : PySem.W.Frag} : PySem.W.kitOne K (.type "list") (.type "bool") = some false := kit_ty (by decide +kernel)
theorem kt_list_str {K : PySem.W.Frag} : PySem.W.kitOne K (.type "list") (.type "str") = some false := kit_ty (by decide +kernel)
theorem kt_list_list {K : PySem.W.Frag} : PySem.W.kitOne K (.type "list") (.type "list") = some true := kit_ty (by decide +kernel)
theorem kt_list_tuple {K : PySem.W.Frag} : PySem.W.kitOne K (.type "list") (.type "tuple") = some false := kit_ty (by decide +kernel)
theorem kt_list_dict {K : PySem.W.Frag} : PySem.W.kitOne K (.type "list") (.type "dict") = some false := kit_ty (by decide +kernel)
theorem kt_tuple_int {K : PySem.W.Frag} : PySem.W.kitOne K (.type "tuple") (.type "int") = some false := kit_ty (by decide +kernel)
theorem kt_tuple_bool {K : PySem.W.Frag} : PySem.W.kitOne K (.type "tuple") (.type "bool") = some false := kit_ty (by decide +kernel)
theorem kt_tuple_str {K : PySem.W.Frag} : PySem.W.kitOne K (.type "tuple") (.type "str") = some false := kit_ty (by decide +kernel)
theorem kt_tuple_list {K : PySem.W.Frag} : PySem.W.kitOne K (.type "tuple") (.type "list") = some false := kit_ty (by decide +kernel)
theorem kt_tuple_tuple {K : PySem.W.Frag} : PySem.W.kitOne K (.type "tuple") (.type "tuple") = some true := kit_ty (by decide +kernel)
theorem kt_tuple_dict {K : PySem.W.Frag} : PySem.W.kitOne K (.type "tuple") (.type "dict") = some false := kit_ty (by decide +kernel)
theorem kt_dict_int {K : PySem.W.Frag} : PySem.W.kitOne K (.type "dict") (.type "int") = some false := kit_ty (by decide +kernel)
theorem kt_dict_bool {K : PySem.W.Frag} : PySem.W.kitOne K (.type "dict") (.type "bool") = some false := kit_ty (by decide +kernel)
theorem kt_dict_str {K : PySem.W.Frag} : PySem.W.kitOne K (.type "dict") (.type "str") = some false := kit_ty (by decide +kernel)
theorem kt_dict_list {K : PySem.W.Frag} : PySem.W.kitOne K (.type "dict") (.type "list") = some false := kit_ty (by decide +kernel)
theorem kt_dict_tuple {K : PySem.W.Frag} : PySem.W.kitOne K (.type "dict") (.type "tuple") = some false := kit_ty (by decide +kernel)
theorem kt_dict_dict {K : PySem.W.Frag} : PySem.W.kitOne K (.type "dict") (.type "dict") = some true := kit_ty (by decide +kernel)
theorem kt_NoneType_int {K : PySem.W.Frag} : PySem.W.kitOne K (.type "NoneType") (.type "int") = some false := kit_ty (by decide +kernel)
theorem kt_NoneType_bool {K : PySem.W.Frag} : PySem.W.kitOne K (.type "NoneType") (.type "bool") = some false := kit_ty (by decide +kernel)
theorem kt_NoneType_str {K : PySem.W.Frag} : PySem.W.kitOne K (.type "NoneType") (.type "str") = some false := kit_ty (by decide +kernel)
theorem kt_NoneType_list {K : PySem.W.Frag} : PySem.W.kitOne K (.type "NoneType") (.type "list") = some false := kit_ty (by decide +kernel)
theorem kt_NoneType_tuple {K : PySem.W.Frag} : PySem.W.kitOne K (.type "NoneType") (.type "tuple") = some false := kit_ty (by decide +kernel)
theorem kt_NoneType_dict {K : PySem.W.Frag} : PySem.W.kitOne K (.type "NoneType") (.type "dict") = some false := kit_ty (by decide +kernel)
end LX
/-! sorted(x) of a list of whole numbers or of a dict with such keys, any number of them -/
namespace LX
open PySem PySem.Spec PyProof.Rows L2
section
variable {X : Cx}
theorem call_sortedDA (hcalm : X.calm = true) : CallR X (.builtin "sorted") (fun xs H Q => ∃ (a : Addr) (kvs : List (Key × V)) (ks : List Int), xs = [.ref a] ∧ Rd H a (.dK kvs) ∧ kvs.map (·.1) = ks.map Sum.inl ∧
    ∀ (ys : List Int) (p : Addr), ys.Perm ks → ys.Pairwise (· ≤ ·) → H p = none → Q (.ref p) (upd H p (.lst (ys.map V.int)))) := by
  intro pins s σ H xs us Q I r q
  obtain ⟨a, kvs, ks, ex, hd, hks, q⟩ := q
  subst ex
  obtain ⟨u, eu, rx⟩ := vals1 r
  subst eu
  cases rx
  obtain ⟨z, lo, vs, rel, dd⟩ := dk_rd I.hok hd
  obtain ⟨ep, hat⟩ := dd.dictAt
  have hkeys : vs.map (·.1) = ks.map Sum.inl := rel.keys.symm.trans hks
  have hl : vs.length = ks.length := by
    have e := congrArg List.length hkeys
    rw [List.length_map, List.length_map] at e
    exact e
  have hkl : ks.length ≤ sizeLine := by
    have e := congrArg List.length hks
    rw [List.length_map, List.length_map] at e
    omega
  have h16 : vs.length ≤ sizeLine := by rw [hl]; exact hkl
  refine Calls.call_function_entry PyProof.Rows.kind_sorted PyProof.Rows.plain_sorted PyProof.Rows.entry_sorted (PyProof.Rows.args_sorted1 _) ?_
  unfold Builtin.«sorted»
  refine wpAny_bind (m := checkCount "sorted" 1 1 _) (wpAny_pure ?_)
  refine wpAny_bind (PySem.W.kdu_collect (A := X.A.in1) (PySem.W.kdl_dict (knd := mixKind X.prog X.w) (kvs := vs) (ep := ep) lo) (I.ok.hd hcalm) hat h16 fun h' tk acc hk hacc => ?_)
  have hal : acc.toList.length = ks.length := by rw [Array.length_toList, hacc.1, hl]
  have hS : IntsAre acc.toList ks := ints_each hal fun j v e => by
    obtain ⟨k, x, e1, e2⟩ := hacc.2 j v (by rw [← Array.getElem?_toList]; exact e)
    have e3 : (vs.map (·.1))[j]? = some k := by rw [List.getElem?_map, e1]; rfl
    rw [hkeys, List.getElem?_map] at e3
    cases e4 : ks[j]? with
    | none => rw [e4] at e3; cases e3
    | some y =>
      rw [e4] at e3
      have e5 : Sum.inl y = k := Option.some.inj e3
      subst e5
      rcases keyIs_shape (show keyIs (Sum.inl y) v = true from e2) with ⟨i, t, ek, ev⟩ | ⟨z, t, ek, ev⟩
      · cases ek
        exact ⟨y, t, rfl, ev⟩
      · cases ek
  have I1 : Inv X pins σ H { s with heap := h', toks := tk } := I.kept hk
  refine wpAny_bind (wpAny_newList ?_ (by rw [hal]; exact hkl))
  have hoL : (h'.push (seqObj "list" acc.toList.toArray 0)).get? h'.objs.size = some (seqObj "list" acc.toList.toArray 0) := Heap.get?_push_size _ rfl
  show wpAny _ _ _ _ _ { s with heap := h'.push (seqObj "list" acc.toList.toArray 0), toks := tk }
  refine wpAny_bind (wpAny_holding (wpAny_call_entry PyProof.Rows.slot_list_sort ⟨_, hoL, rfl⟩ PyProof.Rows.entry_list_sort
    (SrtO.list_sort_ord (s := { s with heap := h'.push (seqObj "list" acc.toList.toArray 0), toks := tk }) SrtO.swo_int hoL (by rw [hal]; exact hkl) (fun h2 => SrtO.ints_sortable hS h2) fun out h1 h2 => ⟨.none, rfl, ?_⟩) (PyProof.Rows.args_list_sort _)))
  obtain ⟨k1, k2, k3⟩ := SrtO.ints_out hS h1 h2
  obtain ⟨e', he'⟩ := PyProof.Rows.sortedHeap_at (vs := acc.toList) (out := out.toArray) hoL
  have hlen : ((out.map SrtO.iv).map V.int).length ≤ sizeLine := by
    rw [List.length_map, k2.length_eq]
    exact hkl
  refine wpAny_pure ⟨_, rfl, .ref h'.objs.size, upd H h'.objs.size (.lst ((out.map SrtO.iv).map V.int)), I1.laid (t' := tk) (fun b u e => ?_) (Nat.le_refl _)
    (show ObjOk X.prog X.w _ _ _ (.lst ((out.map SrtO.iv).map V.int)) from ⟨hlen, out, e', vals_of_ints k1, he'⟩), rfl, q _ _ k2 k3 (I1.hok.fresh (Nat.le_refl _))⟩
  have hb : b < h'.objs.size := Heap.lt_size e
  rw [PyProof.Rows.sortedHeap_old (Nat.ne_of_lt hb) (by rw [size_push']; exact Nat.lt_succ_of_lt hb)]
  exact Heap.get?_push_of_some _ e
def rSortedU (K : PySem.W.Frag) : List V → Hp → VK → Prop := fun vs H Q => ∃ (a : Addr) (ns : List Int), vs = [V.ref a] ∧ (SqL K H a (ns.map V.int) ∨ ∃ kvs : List (Key × V), Rd H a (.dK kvs) ∧ kvs.map (·.1) = ns.map Sum.inl) ∧
  ∀ (ns' : List Int) (p : Addr), ns'.Perm ns → ns'.Pairwise (· ≤ ·) → H p = none → Q (.ref p) (upd H p (.lst (ns'.map V.int)))
theorem call_sortedU (hcalm : X.calm = true) : CallR X (.builtin "sorted") (rSortedU X.K) := by
  intro pins s σ H xs us Q I r h
  obtain ⟨a, ns, rfl, h1 | ⟨kvs, h1, h2⟩, q⟩ := h
  · exact cr_sortedI pins s σ H _ us Q I r ⟨a, ns, rfl, h1, q⟩
  · exact call_sortedDA hcalm pins s σ H _ us Q I r ⟨a, kvs, ns, rfl, h1, h2, q⟩
end
end LX
/-! the rules of LBase with the law's own K, for the parts of a comprehension -/
namespace LX
open PySem PySem.Spec PyProof.Rows L2
section
variable {X : Cx} {K : PySem.W.Frag}
theorem ix_UK (e : X.K = K) (hu : X.A.units + 1 < cLine) : IxR X (rIxU K) := by subst e; exact ix_U hu
theorem op_addUK (e : X.K = K) : OpR X (binaryOp .Add) (rAddU K) := by subst e; exact op_addU
theorem op_eqUK (e : X.K = K) (hu : X.A.units + 64 < cLine) : OpR X (compareOp .Eq) (rEqU K id) := by subst e; exact op_eqU hu
theorem op_neUK (e : X.K = K) (hu : X.A.units + 64 < cLine) : OpR X (compareOp .NotEq) (rEqU K (!·)) := by subst e; exact op_neU hu
theorem op_inUK (e : X.K = K) (hu : X.A.units + 1 < cLine) : OpR X (compareOp .In) (rInU K id) := by subst e; exact op_inU hu
theorem op_ninUK (e : X.K = K) (hu : X.A.units + 1 < cLine) : OpR X (compareOp .NotIn) (rInU K (!·)) := by subst e; exact op_ninU hu
theorem sl_UK (e : X.K = K) : SlR X (rSlU K) := by subst e; exact sl_U
theorem call_lenUK (e : X.K = K) : CallR X (.builtin "len") (rLenU K) := by subst e; exact call_lenU
theorem pe_fldK {o : Expr} {f : Str} {pos : Pos} {ta : TE} (e : X.K = K) (he : PE X o ta) (hb : attributeBase o f X.env (eval o X.env) = eval o X.env) : PE X (.Attribute o f pos) (tFld K ta f) := by subst e; exact pe_fld he hb
def tTruK (K : PySem.W.Frag) (ta : TE) : TT := fun σ H Q => ta σ H fun x H' => ∃ k, TruV K x H' k ∧ Q k H'
theorem pt_truthK {a : Expr} {ta : TE} (e : X.K = K) (ha : PE X a ta) (he : ∀ whole, isTrue a X.env whole = (do let v ← whole; standAt a.pos; holding [v] (truthy v))) :
    PT X a (tTruK K ta) := by subst e; exact pt_truth ha he
end
end LX
/-! own exceptions over ValueError whose __init__ begins with super().__init__(..) -/
namespace LX
open PySem PySem.Spec PyProof.Rows L2 NdefX PySem.W PySem.HandSPX

/-- what the written part says of the class at C and of its __init__ at f -/
structure SupTxt (P : Program) (K : Frag) (mg : Str → Option Value) (C : Addr) (cda cc : Addr) (scope : Scope) : Prop where
  ox : OexC K C
  code : ∃ (ccl : Value) (cdd : Option Addr) (vs : Array Value) (ccs : Array (Option Value)) (file : Str) (tf : Tok), K.lookup cda = some ⟨ccl, cdd, .fields vs, ccs⟩ ∧ vs[2]? = some (.str file tf) ∧ ((P.main.file : Str) == file) = true
  cell : ∃ (cl : Value) (cld : Option Addr) (csl : Array (Option Value)), K.lookup cc = some ⟨cl, cld, .cell (some (.ref C)), csl⟩
  cls : ∃ cdC, clsIn K C = some cdC
  sub : mroIn K C (.ref C) = some true
  init : ks_superIn K C C "__init__" = some (some (.builtin "ValueError.__init__"))
  isB : subIn K (.ref C) (.type "ValueError") = some true
  third : nsIn K cStatics "thirdparty.any" = some none
  mgS : mg "super" = none
  hks : scope.names.lookup ("super" : Str) = some .globalImplicit
  hkc : scope.names.lookup ("__class__" : Str) = some .free
  htop : (P.main.scope.names.lookup ("super" : Str)).isSome = false

section
variable {prog : Program} {w : World} {M : Model} {A : Around} {E : Value → Shared → Prop} {s : Shared} {i : String} {x u : Addr}
theorem mw_callWith {pos : Pos} {first : List Value} {args : List (Bool × Sem Value)} {Q : Value → Shared → Prop} (hplain : args.any (·.1) = false)
    (h : wpAny M A (evalArgs (.ref u) true args []) (fun ar s₁ => s₁.heap.get? u = some (kxs_mw i x) ∧ wpAny M A (call (.ref u) (first ++ ar.pos) ar.kw) Q E s₁) E s) : wpAny M A (callWith pos (.ref u) first args []) Q E s :=
  kxs_callWith (i := i) (x := x) hplain h
theorem mw_call {t0 C : Addr} {rest : List Value} {nm q : Str} {N : Addr} {bs bm : List Value} {hdct : Bool} {sn : List Str} {sub : List Value} {ab : Bool} {col : Option Bool} {dd : Option Addr} {k0 k1 k2 k3 k5 : Option Value} {h : Heap} {g : Array GenState} {d : Drawn} {t : Nat} {os : OsState} {Q : Value → Shared → Prop}
    (hC : h.get? C = some (excClassObj nm q C N bs bm hdct sn sub ab col dd k0 k1 k2 k3 k5 "ValueError.__new__")) (he : h.get? x = some (excO C t0)) (hu : h.get? u = some (kxs_mw "ValueError.__init__" x)) (hrest : rest.length ≤ sizeLine)
    (hq : ∀ h' t1, (∀ b o, b ≠ x → h.get? b = some o → h'.get? b = some o) → h'.get? x = some (excO C t1) → Q .none ⟨h', g, d, t, os⟩) :
    wpAny (model prog w) A (call (.ref u) rest) Q E ⟨h, g, d, t, os⟩ := by
  refine wpAny_call (codeAny_of_tree ?_)
  show wpAny _ A.in1 (callAny (.ref u) ⟨rest, []⟩) _ _ _
  simp only [callAny]
  refine wpAny_bind (wpAny_load hu ?_)
  simp only [kxs_mw, show (Value.type "method-wrapper" == Value.type "method" || Value.type "method-wrapper" == Value.type "builtin_function_or_method" || Value.type "method-wrapper" == Value.type "method-wrapper") = true by decide, if_true]
  refine KFB.if_so (by decide) ?_
  refine wpAny_bind (check_bound_init F.excBase_ValueError.toExcCallFacts hC he rfl ?_)
  refine wpAny_bind (wpAny_pure (wpAny_pure ?_))
  refine ⟨plainId_quiet F.excBase_ValueError.init.plain _, codeAny_builtin F.excBase_ValueError.initEntry ?_⟩
  rw [Around.under_plainId F.excBase_ValueError.init.plain _]
  wp_walk
  refine hq _ h.objs.size (fun b o hb ho => ?_) ?_
  · rw [Heap.get?_update_other _ _ (Ne.symm hb)]
    exact Heap.get?_push_of_some _ ho
  · rw [Heap.get?_update_self _ (Heap.get?_push_of_some _ he) rfl]
    rfl
end

/-- the reading of super().__init__(e, ..) as the first statement of C's own __init__, self in slot 0 -/
def tSup (C : Addr) (ta : TA) : TS := fun D σ H => ∃ a : Addr, σ[0]? = some (some (.ref a)) ∧ H a = some (exo a C none) ∧ ta σ H fun vs H1 => vs.length ≤ sizeLine ∧ H1 a = some (exo a C none) ∧ D.nx σ H1

section
variable {P : Program} {w : World} {K : PySem.W.Frag} {mg : Str → Option Value} {base : Heap}
theorem fn_sup {CX : CXT} {k : Nat} {f : Addr} {name qual : Str} {params : Arguments} {scope : Scope} {dV kV doc pm ct oc : Value} {cda cc C : Addr} {an od : Option Addr} {osl : Array (Option Value)} {N ps : List Str} {sp : Sp}
    {p0 p1 p2 p3 p4 : Pos} {e : Expr} {es : List Expr} {rest : List Stmt} {ar : Arg}
    (lk : K.lookup f = some ⟨oc, od, .func (PySem.W.fnX name qual params (.Expr (.Call (.Attribute (.Call (.Name "super" p0) [] [] p1) "__init__" p2) (e :: es) [] p3) p4 :: rest) scope [("__class__", cc)] dV kV doc pm an (.ref cda) ct), osl⟩)
    (hcd : PySem.W.codeIn K (.ref cda) qual = true) (S : NScope N ps ["__class__"] scope) (T : SupTxt P K mg C cda cc scope) (hp : (params.posonlyargs ++ params.args).head? = some ar) (hp0 : ps[0]? = some ar.arg)
    {pl : Env → Sem Bool}
    (hev : ∀ L, eval (.Call (.Attribute (.Call (.Name "super" p0) [] [] p1) "__init__" p2) (e :: es) [] p3) (envX qual scope L f (.ref cda) [("__class__", cc)]) = (do
      let ov ← attributeBase (.Call (.Name "super" p0) [] [] p1) "__init__" (envX qual scope L f (.ref cda) [("__class__", cc)]) (eval (.Call (.Name "super" p0) [] [] p1) (envX qual scope L f (.ref cda) [("__class__", cc)]))
      standAt p2.atName
      let (f', first) ← holding [ov] (getMethod ov "__init__" (pl (envX qual scope L f (.ref cda) [("__class__", cc)])))
      callWith p3 f' first (backTo p3 (starEach (e :: es) (envX qual scope L f (.ref cda) [("__class__", cc)]))) []))
    (hst : ∀ env, starEach (e :: es) env = (false, eval e env) :: starEach es env) (hplain : ∀ env, (backTo p3 (starEach es env)).any (·.1) = false)
    (hint : ∀ L, interactive (envX qual scope L f (.ref cda) [("__class__", cc)]) = false) (hsw : ∀ L, swapsWith (.Call (.Attribute (.Call (.Name "super" p0) [] [] p1) "__init__" p2) (e :: es) [] p3) none p4.line (envX qual scope L f (.ref cda) [("__class__", cc)]) = pure false)
    (len : ∀ vs H Q E, sp vs H Q E → vs.length = ps.length)
    (hbody : ∀ (A : Around) (outer : List Env) (s : Shared) (H : Hp) (vs : List V) (Q : VK) (E : XK), Room k (A.deeper (envX qual scope s.heap.objs.size f (.ref cda) [("__class__", cc)])) → sp vs H Q E →
      ∃ ta t, PA (ncx CX P w K mg base N ⟨name, qual, params, .Expr (.Call (.Attribute (.Call (.Name "super" p0) [] [] p1) "__init__" p2) (e :: es) [] p3) p4 :: rest, scope, [("__class__", cc)], cda⟩ f A outer s H E) (e :: es) ta ∧
        PSs (ncx CX P w K mg base N ⟨name, qual, params, .Expr (.Call (.Attribute (.Call (.Name "super" p0) [] [] p1) "__init__" p2) (e :: es) [] p3) p4 :: rest, scope, [("__class__", cc)], cda⟩ f A outer s H E) rest t ∧
        tSeq (tSup C ta) t { nx := fun _ H' => Q .non H', rt := Q } (startF N vs [some (.ref C)]) H) :
    FnOk P w K mg base CX (k + 1) f (PySem.W.fnX name qual params (.Expr (.Call (.Attribute (.Call (.Name "super" p0) [] [] p1) "__init__" p2) (e :: es) [] p3) p4 :: rest) scope [("__class__", cc)] dV kV doc pm an (.ref cda) ct) ps sp := by
  refine ⟨len, fun A outer s H args us vs Q E hr e0 hb r hsp => ?_⟩
  have hl := len _ _ _ _ hsp
  have KX : K.In s.heap := e0.mod.kin.keeps fun b o e => (e0.bs b o e).1
  have lim : s.heap.NoLimit := e0.mod.nolimit.keeps fun b o e => (e0.bs b o e).1
  obtain ⟨cl, cld, csl, hcell⟩ := T.cell
  have CA : CellsAt [(("__class__" : Str), cc)] ["__class__"] [some (.ref C)] s.heap H := by
    have hcc : s.heap.get? cc = some ⟨cl, cld, .cell (some (.ref C)), csl⟩ := KX _ _ hcell
    have hn : H cc = none := (e0.bs cc _ (e0.mod.kin _ _ hcell)).2
    refine ⟨rfl, fun y c h => ?_, fun y z c h1 h2 => ?_, fun j y h => ?_⟩
    · have : y = "__class__" ∧ c = cc := by
        simp only [List.lookup] at h
        split at h
        · rename_i q
          exact ⟨by simpa using q, (Option.some.inj h).symm⟩
        · cases h
      obtain ⟨rfl, rfl⟩ := this
      exact ⟨hn, _, _, hcc, rfl⟩
    · have key : ∀ {y : Str}, List.lookup y [(("__class__" : Str), cc)] = some c → y = "__class__" := fun {y} h => by
        simp only [List.lookup] at h
        split at h
        · rename_i q
          simpa using q
        · cases h
      rw [key h1, key h2]
    · cases j with
      | zero =>
        have : y = "__class__" := (Option.some.inj h).symm
        subst this
        refine ⟨cc, by simp [List.lookup], fun v hv => ?_⟩
        have : v = .ref C := by simpa using hv.symm
        subst this
        exact ⟨.ref C, rfl, _, hcc, rfl⟩
      | succ j => simp at h
  refine ks_codeAny_call_defAt (binds := ps.zip us) hr.depth (KX _ _ lk) rfl lim (codeRec_of KX hcd) rfl hb S.nocell (fun x hx => S.par x.1 (List.of_mem_zip hx).1) (fun h₁ hns kp => ?_) S.co S.gen S.kind
  obtain ⟨ta, t, hta, ht, hq⟩ := hbody A outer s H vs Q E (hr.deeper _) hsp
  obtain ⟨a, hσ, hea, hq⟩ := hq
  have I : Inv (ncx CX P w K mg base N ⟨name, qual, params, .Expr (.Call (.Attribute (.Call (.Name "super" p0) [] [] p1) "__init__" p2) (e :: es) [] p3) p4 :: rest, scope, [("__class__", cc)], cda⟩ f A outer s H E) [] (startF N vs [some (.ref C)]) H { s with heap := h₁, toks := s.toks + (ps.zip us).length } :=
    inv_startN (F := ⟨name, qual, params, .Expr (.Call (.Attribute (.Call (.Name "super" p0) [] [] p1) "__init__" p2) (e :: es) [] p3) p4 :: rest, scope, [("__class__", cc)], cda⟩) S hr.hd e0 hl r CA hns kp
  generalize hX : ncx CX P w K mg base N ⟨name, qual, params, .Expr (.Call (.Attribute (.Call (.Name "super" p0) [] [] p1) "__init__" p2) (e :: es) [] p3) p4 :: rest, scope, [("__class__", cc)], cda⟩ f A outer s H E = X at hta ht I
  have eK : X.K = K := by rw [← hX]; rfl
  have eP : X.prog = P := by rw [← hX]; rfl
  have ew : X.w = w := by rw [← hX]; rfl
  have emg : X.mg = mg := by rw [← hX]; rfl
  have eN : X.N = N := by rw [← hX]; rfl
  have eenv : X.env = envX qual scope s.heap.objs.size f (.ref cda) [("__class__", cc)] := by rw [← hX]; rfl
  have eA : X.A = A.deeper X.env := by rw [← hX]; rfl
  have exe : X.xe = fun e s' => wpAny (model P w) (A.deeper (envX qual scope s.heap.objs.size f (.ref cda) [("__class__", cc)])) (leaving (envX qual scope s.heap.objs.size f (.ref cda) [("__class__", cc)]) e) (fun _ s'' => CX outer H s E e s'') (fun e' s'' => CX outer H s E e' s'') s' := by rw [← hX]; rfl
  have fin : ∀ {s' : Shared} {σ' : L2.St} {H' : Hp} {v : V} {u : Value}, Inv X [] σ' H' s' → L2.RelV v u → Q v H' → CE outer P w H s Q u s' :=
    fun {s' σ' H' v u} J rv q => by
      subst hX
      exact ⟨v, H', J.os, J.bare, J.base, J.hok, rv, q⟩
  show PySem.wpAt (model P w) (A.deeper (envX qual scope s.heap.objs.size f (.ref cda) [("__class__", cc)])) (.func (.Expr (.Call (.Attribute (.Call (.Name "super" p0) [] [] p1) "__init__" p2) (e :: es) [] p3) p4 :: rest) (envX qual scope s.heap.objs.size f (.ref cda) [("__class__", cc)]))
    (execs (.Expr (.Call (.Attribute (.Call (.Name "super" p0) [] [] p1) "__init__" p2) (e :: es) [] p3) p4 :: rest) (envX qual scope s.heap.objs.size f (.ref cda) [("__class__", cc)])) _ _ _
  rw [← eenv, ← eA]
  have eM : model P w = model X.prog X.w := by rw [eP, ew]
  rw [eM]
  refine ks_wpAt_mono (Q := SP X [] { nx := fun _ H' => Q .non H', rt := Q }) (E := X.xe) ?_ (fun fl s' hs => ?_) (fun e s' hs => ?_)
  · refine ks_wpAt_execs_cons (ks_wpAt_Expr_any (ks_wpAt_MethodCall ?_ (by rw [eenv]; exact hev _)) (by rw [eenv]; exact hint _) (by rw [eenv]; exact hsw _))
    -- super()
    obtain ⟨ccl, cdd, cvs, ccs, file, tf, hcode, hvs, hfile⟩ := T.code
    obtain ⟨cdC, hcl⟩ := T.cls
    obtain ⟨t1, ho⟩ := exo_at I.hok hea
    have XK : K.In h₁ := by have := I.kIn; rw [eK] at this; exact this
    obtain ⟨oD, hD1, hD2⟩ : ∃ oD, h₁.get? C = some oD ∧ oD.data = .cls cdC := by
      unfold clsIn at hcl
      split at hcl
      · rename_i c d cd' sl ho
        cases hcl
        exact ⟨_, XK _ _ ho, rfl⟩
      · cases hcl
    have hN0 : X.N[0]? = some ar.arg := by
      rw [eN]
      have z := congrArg (fun l => l[0]?) S.pre
      rw [List.getElem?_take_of_lt (by simp)] at z
      rw [z, List.getElem?_append_left (by obtain ⟨h0, _⟩ := List.getElem?_eq_some_iff.mp hp0; exact h0), hp0]
    have harl : scope.names.lookup ar.arg = some .local := S.par _ (List.mem_of_getElem? hp0)
    obtain ⟨m, hn, hlk⟩ := I.loc
    obtain ⟨u0, ru0, lo0⟩ := hlk 0 ar.arg (.ref a) hN0 hσ (by rw [eenv]; exact Or.inl harl)
    obtain rfl : u0 = Value.ref a := ru0
    have hm0 : m ar.arg = some (.ref a) := by
      rcases lo0 with ⟨_, z⟩ | ⟨z, _⟩
      · exact z
      · exfalso
        have z' : scope.names.lookup ar.arg = some .cell ∨ scope.names.lookup ar.arg = some .free := by rw [eenv] at z; exact z
        rw [harl] at z'
        rcases z' with z' | z' <;> cases z'
    have hkind : X.env.scope.kind = .function := I.ok.kind
    have hks : X.env.kindOf "super" = some .globalImplicit := by rw [eenv]; exact T.hks
    have hkc : X.env.kindOf "__class__" = some .free := by rw [eenv]; exact T.hkc
    have hka : X.env.kindOf ar.arg = some .local := by rw [eenv]; exact harl
    refine ks_wpAt_super_base (of := ⟨oc, od, .func (PySem.W.fnX name qual params (.Expr (.Call (.Attribute (.Call (.Name "super" p0) [] [] p1) "__init__" p2) (e :: es) [] p3) p4 :: rest) scope [("__class__", cc)] dV kV doc pm an (.ref cda) ct), osl⟩) (f := f) (cc := cda) hks hkc (by decide) (by rw [eenv]) (XK _ _ lk) rfl hp (by rw [eenv]) (XK _ _ hcode) rfl hvs (by rw [eP]; exact hfile) (by rw [eP]; exact T.htop) ?_
    obtain ⟨mb, hmb1, hmb2⟩ := I.mod.blt
    refine ks_loadName_global hkind hks (Calls.loadGlobal_builtin (by rw [I.ok.glob]; exact I.mod.glob.keeps I.bk) (by rw [emg]; exact T.mgS) (by rw [I.ok.blt]; exact hmb1.keeps I.bk) ((hmb2 _ (by decide)).trans PyProof.Rows.Boot.super) ⟨rfl, ?_⟩)
    refine wpAny_loadName_free (c := cc) hkind hkc (by rw [eenv]; simp [List.lookup]) ⟨_, XK _ _ hcell, rfl⟩ ?_
    refine wpAny_loadName_local hkind hka hn hm0 ?_
    refine ks_wpAny_isType_cls hD1 hD2 ⟨rfl, ?_⟩
    refine ks_wpAny_call_super (C := C) hD1 hD2 ho rfl (fun c z => by cases z) (looks_mroIn XK T.sub) (fun h2 e2 k2 => ?_)
    have I2 : Inv X [] (startF N vs [some (.ref C)]) H { s with heap := h2, toks := s.toks + (ps.zip us).length } := I.kept (t' := s.toks + (ps.zip us).length) k2
    have XK2 : K.In h2 := XK.keeps k2
    have hx2 := k2 _ _ ho
    have II : PySem.W.InstAt h2 a ({ cls := .ref C, dict := none, data := .fields #[.ref t1, .none, .none, .none, .bool false, .none] } : Obj) C none := ⟨hx2, rfl, rfl, trivial⟩
    have hsup := T.init
    unfold ks_superIn at hsup
    rw [hcl] at hsup
    refine kxs_getMethod kxs_ValueError e2 (looks_opaque XK2 T.third) (l₀ := cdC.mro) (fun A Q E s k q => wpAny_bind ((looks_clsIn XK2 hcl) A _ E s k (wpAny_pure q))) rfl XK2 hsup (II.type.andThen (looks_subIn XK2 T.isB)) (ks_ne XK2 II hcl) (by decide) ?_
    -- the wrapper stands, pinned
    have k3 : ∀ b o, h2.get? b = some o → (h2.push (kxs_mw "ValueError.__init__" a)).get? b = some o := fun b o q => Heap.get?_push_of_some _ q
    have I3 : Inv X [] (startF N vs [some (.ref C)]) H { s with heap := h2.push (kxs_mw "ValueError.__init__" a), toks := s.toks + (ps.zip us).length + 1 } := I2.kept (t' := s.toks + (ps.zip us).length + 1) k3
    have hmw : (h2.push (kxs_mw "ValueError.__init__" a)).get? h2.objs.size = some (kxs_mw "ValueError.__init__" a) := Heap.get?_push_at rfl rfl
    have I4 : Inv X [(h2.objs.size, kxs_mw "ValueError.__init__" a)] (startF N vs [some (.ref C)]) H { s with heap := h2.push (kxs_mw "ValueError.__init__" a), toks := s.toks + (ps.zip us).length + 1 } := by
      refine I3.pins_of fun p hp => ?_
      obtain rfl : p = (h2.objs.size, kxs_mw "ValueError.__init__" a) := by simpa using hp
      exact ⟨hmw, I2.hok.fresh (Nat.le_refl _), Nat.ne_of_gt I2.lt, I2.nofs (Nat.le_refl _), fun v z => by cases z⟩
    have hargs := hta.run p3 _ _ _ _ _ I4 hq
    have hst' := hst X.env
    rw [hst'] at hargs ⊢
    refine kxs_callWith (i := "ValueError.__init__") (x := a) (by show (false || (backTo p3 (starEach es X.env)).any (·.1)) = false; rw [hplain]; rfl) (PySem.Calls.evalArgs_plain (thn hargs fun us2 s2 hh => ?_))
    obtain ⟨vs2, H2, J, rv2, hlen2, hea2, hnx⟩ := hh
    obtain ⟨hu2, _⟩ := J.pin (h2.objs.size, kxs_mw "ValueError.__init__" a) (List.mem_append_right _ (by simp))
    refine ⟨hu2, ?_⟩
    obtain ⟨nm, q, N', bs, bm, sn, sub, ab, col, dd, k0, k1, k2', k3', k5, hC, hbm⟩ := T.ox.cls
    obtain ⟨t3, ho3⟩ := exo_at J.hok hea2
    have XK4 : K.In s2.heap := by have := J.kIn; rw [eK] at this; exact this
    obtain ⟨hp4, g4, d4, tk4, os4⟩ := s2
    refine mw_call (XK4 _ _ hC) ho3 hu2 (by show us2.length ≤ sizeLine; rw [← rv2.length]; exact hlen2) fun h5 t5 k5 hx5 => ?_
    have J5 := J.write (t' := tk4) (x := a) (e := a) (o := exo a C none) (by rw [hea2]; exact True.intro) (.inl rfl) k5 ⟨_, hx5⟩ (exo_ok hx5)
    have eu : upd H2 a (exo a C none) = H2 := by
      funext b
      by_cases hb : b = a
      · rw [hb, upd_same, hea2]
      · rw [upd_ne hb]
    rw [eu] at J5
    have J6 : Inv X [] (startF N vs [some (.ref C)]) H2 { heap := h5, gens := g4, drawn := d4, toks := tk4, os := os4 } := J5.pins_of fun p hp => by cases hp
    exact wpAt_of_wpAny (ht.run [] _ _ _ _ J6 hnx)
  · cases fl with
    | ret u =>
      obtain ⟨v, σ', H', J, rv, q⟩ := hs
      exact fin J rv q
    | next =>
      obtain ⟨σ', H', J, q⟩ := hs
      exact fin (v := V.non) (u := Value.none) J rfl q
    | brk =>
      obtain ⟨_, _, _, q⟩ := hs
      exact False.elim q
    | cont =>
      obtain ⟨_, _, _, q⟩ := hs
      exact False.elim q
  · rw [exe] at hs
    rw [eP, ew]
    exact hs
end
end LX
/-! own exceptions that carry fields, caught and asked; defs called where one is handled -/
namespace LX
open PySem PySem.Spec PyProof.Rows L2 NdefX
/-- what an own exception class says -/
structure ExK (K : PySem.W.Frag) (D : Addr) : Prop where
  ox : OexC K D
  hg : PySem.W.findIn K (.ref D) "__getattribute__" = some (some (.builtin "BaseException.__getattribute__"))
  hk : PySem.W.findIn K (.ref D) "__getattr__" = some none
  hd : PySem.W.hasDictIn K D = true
  ha : PySem.W.findIn K (.ref D) "__class__" = some (some (.builtin "object.__class__"))
  hn : PySem.W.specialIn K (.builtin "object.__class__") "__get__" = some (some (.builtin "getset_descriptor.__get__"))
  ht : PySem.W.takesIn K (.builtin "object.__class__") = some true
  hm : PySem.W.mroIn K D (.type "object") = some true
section
variable {P : Program} {w : World} {K : PySem.W.Frag} {mg : Str → Option Value} {base : Heap}
theorem okN {x qual : Str} {st : Stmt} {f : Addr} {fd : FuncData} {N ps : List Str} {k : Nat} {sp : Sp} (F : Fun K x qual st f fd) (S : FnScope N ps (defScope st)) (len : ∀ vs H Q E, sp vs H Q E → vs.length = ps.length)
    (hbody : ∀ (cdv : Value) (A : Around) (outer : List Env) (s : Shared) (H : Hp) (vs : List V) (Q : VK) (E : XK), Room k (A.deeper (envOfC qual (defScope st) s.heap.objs.size f cdv)) → sp vs H Q E →
      ∃ t, PSs (cxOf (L2N.CX P w) P w K mg base N qual (defScope st) f cdv A outer s H E) (defBody st) t ∧ t { nx := fun _ H' => Q .non H', rt := Q } (L2.start N vs) H) : FnOk P w K mg base (L2N.CX P w) (k + 1) f fd ps sp := by
  obtain ⟨oc, od, kV, doc, pm, an, cdv, ct, osl, rfl, lk, hcd⟩ := F.ex
  exact fn_of lk hcd S len fun A outer s H vs Q E hr hsp => hbody cdv A outer s H vs Q E hr hsp
end
section
variable {X : Cx} {o e : Expr} {es : List Expr} {to te : TE} {ta : TA} {f : Str} {p p' p1 p2 pos : Pos}
theorem pmk_x {CX : CXT} {x : Str} {C fI : Addr} {k : Nat} {fd : FuncData} {ps : List Str} {sp : Sp} (T : OexC X.K C) (iC : PySem.W.findIn X.K (.ref C) "__init__" = some (some (.ref fI)) ∧ PySem.W.typeIn X.K (.ref fI) = some (.type "function"))
    (F1 : FnOk X.prog X.w X.K X.mg X.base CX k fI fd ps sp) (hr : Room (k + 1) X.A) (hb : Binds X.K fd ps []) (hx : Passes CX X (fun _ _ _ => False)) (hg : Gl X x) (hm : X.mg x = some (.ref C)) (ha : PA X (e :: es) ta)
    (hdb : (x == ("__debug__" : Str)) = false := by decide) (he : starEach (e :: es) X.env = (false, eval e X.env) :: starEach es X.env := by rfl) (hpl : (backTo pos (starEach es X.env)).any (·.1) = false := by rfl) :
    L2N.PMk X (.Call (.Name x p) (e :: es) [] pos) (tMkO C sp [] ta) := by
  obtain ⟨iC, tI⟩ := iC
  intro pins s σ H Q I h
  obtain ⟨nm, q, N, bs, bm, sn, sub, ab, col, dd, k0, k1, k2, k3, k5, hC, hbm⟩ := T.cls
  refine wpAny_Call_Name_kw (ld_glob I hg hm ?_ hdb)
  refine PySem.W.callWith_K (h₀ := X.base) I.ok.mod.kin T.kC (thn (ha.run pos pins s σ H _ I h) fun us s1 ⟨vs, H1, I1, r1, hz, q1⟩ => ⟨I1.kIn, ?_⟩) he hpl
  show wpAny _ _ (call (.ref C) us) _ _ _
  obtain ⟨hp, g, dr, tk, os⟩ := s1
  have hsz : hp.objs.size ≤ hp.objs.size + 1 := Nat.le_succ _
  have hn : H1 (hp.objs.size + 1) = none := I1.hok.fresh hsz
  have hq := q1 (hp.objs.size + 1) hn
  rw [List.append_nil] at hq
  have kk : ∀ b o, hp.get? b = some o → ((hp.push (PySem.W.kdv_tup us)).push (PySem.HandSPX.excO C hp.objs.size)).get? b = some o := fun b o e => Heap.get?_push_of_some _ (Heap.get?_push_of_some _ e)
  have hget : ((hp.push (PySem.W.kdv_tup us)).push (PySem.HandSPX.excO C hp.objs.size)).get? (hp.objs.size + 1) = some (PySem.HandSPX.excO C hp.objs.size) := by heap_get
  have I2 : Inv X pins σ (upd H1 (hp.objs.size + 1) (exo (hp.objs.size + 1) C none)) ⟨(hp.push (PySem.W.kdv_tup us)).push (PySem.HandSPX.excO C hp.objs.size), g, dr, tk, os⟩ :=
    I1.laid (t' := tk) (a := hp.objs.size + 1) (o := exo (hp.objs.size + 1) C none) (h' := (hp.push (PySem.W.kdv_tup us)).push (PySem.HandSPX.excO C hp.objs.size)) kk hsz (exo_ok hget)
  have r2 : Vals (V.ref (hp.objs.size + 1) :: vs) (Value.ref (hp.objs.size + 1) :: us) := .cons rfl r1
  have hl : (Value.ref (hp.objs.size + 1) :: us).length = ps.length := by
    have e := r2.length
    rw [F1.len _ _ _ _ hq] at e
    exact e.symm
  have hus : us.length ≤ sizeLine := by
    rw [← Paired.length r1, sizeLine_eq]
    omega
  have hb1 := hb ⟨(hp.push (PySem.W.kdv_tup us)).push (PySem.HandSPX.excO C hp.objs.size), g, dr, tk, os⟩ (Value.ref (hp.objs.size + 1) :: us) I2.kIn (by rw [List.append_nil]; exact hl)
  rw [List.append_nil] at hb1
  refine wpAny_call (PySem.HandSPX.call_own F.excBase_ValueError (fun Y => PySem.HandSPX.refsVE_contains Y bm hbm) (I1.kIn _ _ hC) (PySem.W.looks_findIn I1.kIn iC) (fun self => PySem.W.bind_fn I1.kIn self tI) hus
    (codeAny_mono (F1.run _ X.stack _ _ ⟨Value.ref (hp.objs.size + 1) :: us, []⟩ (Value.ref (hp.objs.size + 1) :: us) _ _ (fun _ _ _ => False) (hr.make C us []) (I2.env0.make C us []) hb1 r2 hq) fun r s' hq' => ?_))
  cases r with
  | error er => exact hx pins σ _ _ er s' I2 hq'
  | ok fl =>
    cases fl with
    | ret u =>
      obtain ⟨v, H2, os2, bare2, un2, hok2, rv, ev, d, fs, ea, ed, hd1, q2⟩ := hq'
      subst ev
      obtain ⟨h2, g2, d2, t2, os'⟩ := s'
      obtain ⟨t0, G, J, kG, ge, hoe, na⟩ := mk_end0 (d2 := d2) (t2 := t2) I1 hsz kk un2 hok2 os2 bare2 ea ed hd1
      exact ⟨rv, _, _, _, ⟨G, g2, d2, t2, os'⟩, _, .ref C, some d, rfl, J, kG, ge, hoe, ⟨rfl, rfl, fun vs e => by cases e; rfl⟩, rfl, rfl, na, rfl, bare2, raises_own T.exC T.tyC, q2⟩
    | next => exact False.elim hq'
    | brk => exact False.elim hq'
    | cont => exact False.elim hq'
end
/-! ### calls within a try -/
section
variable {X : Cx} {CX : CXT} {k : Nat} {f C : Addr} {fd : FuncData} {ps : List Str} {sp : Sp} {E : L2.St → XK} {x m : Str} {p pos apos : Pos} {e o : Expr} {es : List Expr} {ta : TE} {t : TA}
theorem pe_methAt {pl : Sem Bool} (he : PE X o ta) (c : Cls X.K C) (hm : Meth X.K C m f) (F : FnOk X.prog X.w X.K X.mg X.base CX k f fd ps sp) (hr : Room k X.A) (hb : Binds X.K fd ps []) (hx : ∀ σ, PassesAt CX X σ (E σ)) (ha : PA X (e :: es) t)
    (hst : starEach (e :: es) X.env = (false, eval e X.env) :: starEach es X.env := by rfl) (hpl : (backTo pos (starEach es X.env)).any (·.1) = false := by rfl)
    (ht : eval (.Call (.Attribute o m apos) (e :: es) [] pos) X.env = (do
      let ov ← eval o X.env
      standAt apos.atName
      let (f, first) ← holding [ov] (getMethod ov m pl)
      callWith pos f first (backTo pos (starEach (e :: es) X.env)) (backToKw pos (keywordEach [] X.env))) := by rfl) :
    PE X (.Call (.Attribute o m apos) (e :: es) [] pos) (L2H.tMethH C m sp E ta t) := by
  refine ⟨fun pins s σ H Q I h => ?_⟩
  refine PySem.W.methodCall_KW (pl := pl) (thn (he.run pins s σ H _ I h) fun u s1 ⟨x, H1, I1, rx, a, dx, fs, ex, ea, l, q⟩ => ?_) ht
  subst ex
  obtain rfl : u = Value.ref a := rx
  refine getmeth_ok I1 ea c hm l ?_
  refine PySem.W.callWith_K (first := [.ref a]) (h₀ := X.base) I.ok.mod.kin hm.kp (thn (ha.run pos pins s1 σ H1 _ I1 q) fun us s2 ⟨vs, H2, I2, r, q2⟩ => ⟨I2.kIn, ?_⟩) hst hpl
  exact run_fnS (us := .ref a :: us) (vs := .ref a :: vs) F hr hb (hx σ) I2 (.cons rfl r) q2
theorem pe_methAt0 {pl : Sem Bool} (he : PE X o ta) (c : Cls X.K C) (hm : Meth X.K C m f) (F : FnOk X.prog X.w X.K X.mg X.base CX k f fd ps sp) (hr : Room k X.A) (hb : Binds X.K fd ps []) (hx : ∀ σ, PassesAt CX X σ (E σ))
    (ht : eval (.Call (.Attribute o m apos) [] [] pos) X.env = (do
      let ov ← eval o X.env
      standAt apos.atName
      let (f, first) ← holding [ov] (getMethod ov m pl)
      callWith pos f first (backTo pos (starEach [] X.env)) (backToKw pos (keywordEach [] X.env))) := by rfl) :
    PE X (.Call (.Attribute o m apos) [] [] pos) (L2H.tMethH C m sp E ta tNil) := by
  refine ⟨fun pins s σ H Q I h => ?_⟩
  refine PySem.W.methodCall_KW (pl := pl) (thn (he.run pins s σ H _ I h) fun u s1 ⟨x, H1, I1, rx, a, dx, fs, ex, ea, l, q⟩ => ?_) ht
  subst ex
  obtain rfl : u = Value.ref a := rx
  refine getmeth_ok I1 ea c hm l ?_
  exact PySem.W.callWith_K0 (first := [.ref a]) I1.kIn hm.kp (run_fnS (us := [.ref a]) (vs := [.ref a]) F hr hb (hx σ) I1 (.cons rfl .nil) q)
end
theorem pass0At {X : Cx} {E : L2.St → XK} : ∀ σ, PassesAt CX0 X σ (E σ) := fun _ _ _ _ _ _ _ h => h.elim
/-! ### asking the exception that is held -/
/-- what is known of a pinned exception -/
structure PinE (cls : Value) (d : Option Addr) (oe : Obj) : Prop where
  z : L2N.Zn cls d oe
  f : ∃ vs, oe.data = .fields vs
def rIsP (K : PySem.W.Frag) (a : Addr) (cls : Value) (d : Option Addr) : List V → Hp → VK → Prop := fun xs H Q => ∃ (D : Addr) (c : V) (cv : Value) (b : Bool), cls = .ref D ∧ ExK K D ∧ xs = [.ref a, c] ∧ ClsV c cv ∧ PySem.W.kitOne K (.ref D) cv = some b ∧ (∀ dd, d = some dd → ∃ fs, H dd = some (.xd fs)) ∧ Q (.bl b) H
theorem call_isP {X : Cx} {a : Addr} {oe : Obj} {cls : Value} {d : Option Addr} (hp : (a, oe) ∈ X.pn) (Z : PinE cls d oe) : CallR X (.builtin "isinstance") (rIsP X.K a cls d) := by
  intro pins s σ H xs us Q I r h
  obtain ⟨D, c, cv, b, rfl, C, rfl, hcv, e, hdd, q⟩ := h
  cases r with
  | cons rx rr =>
    cases rr with
    | cons rt rr =>
      cases rr
      cases rx
      have ec := hcv.eq rt
      subst ec
      obtain ⟨hget, _⟩ := I.pin (a, oe) (List.mem_append_left _ hp)
      obtain ⟨vs, hv⟩ := Z.f
      have hz := Z.z.zc
      obtain ⟨cdD, hcD, _⟩ := PySem.W.any_some C.hd
      cases d with
      | none =>
        have J : PySem.W.InstAt s.heap a oe D none := by
          obtain ⟨oc, od, oda, osl⟩ := oe
          obtain ⟨h1, h2⟩ := hz
          dsimp only at h1 h2 hv
          subst h1 h2 hv
          exact ⟨hget, rfl, rfl, trivial⟩
        exact PySem.W.kia_one (PySem.W.kitx_exc (by rw [hcD]; rfl) C.hg C.hk C.ox.exC C.ha C.hn C.ht C.hm) I.kIn J e (fun z => nomatch z) fun tk => ⟨.bl b, H, I.kept (t' := tk) fun _ _ z => z, rfl, q⟩
      | some dd =>
        obtain ⟨fs, hfs⟩ := hdd dd rfl
        have hx : ObjOk X.prog X.w H s.heap dd (.xd fs) := I.hok dd _ hfs
        obtain ⟨mA, hns, hr⟩ := hx
        obtain ⟨od, ho, hl⟩ := lookIn_ns hns
        have J : PySem.W.InstAt s.heap a oe D (some od) := ⟨hget, hz.1, by unfold PySem.W.notCls; rw [hv] <;> rfl, by rw [hz.2]; exact ho⟩
        exact PySem.W.kia_one (PySem.W.kitx_exc (by rw [hcD]; rfl) C.hg C.hk C.ox.exC C.ha C.hn C.ht C.hm) I.kIn J e (fun z => nomatch z) fun tk => ⟨.bl b, H, I.kept (t' := tk) fun _ _ z => z, rfl, q⟩
/-- field f of the exception held -/
def tXfP (K : PySem.W.Frag) (a : Addr) (cls : Value) (d : Option Addr) (f : Str) (te : TE) : TE := fun σ H Q => te σ H fun x H1 => x = .ref a ∧ ∃ (C dd : Addr) (fs : List (Str × V)) (v : V), cls = .ref C ∧ ExK K C ∧ PySem.W.findIn K (.ref C) f = some none ∧ d = some dd ∧ H1 dd = some (.xd fs) ∧ fs.lookup f = some v ∧ Q v H1
theorem pe_xfP {X : Cx} {a : Addr} {oe : Obj} {cls : Value} {d : Option Addr} {e : Expr} {te : TE} {pos : Pos} {n : Str} (hp : (a, oe) ∈ X.pn) (Z : PinE cls d oe) (he : PE X e te) (hb : attributeBase e n X.env (eval e X.env) = eval e X.env := by rfl) :
    PE X (.Attribute e n pos) (tXfP X.K a cls d n te) := by
  refine ⟨fun pins s σ H Q I h => ?_⟩
  refine attr_of hb (thn (he.run pins s σ H _ I h) fun u s1 hh => ?_)
  obtain ⟨x, H1, I1, rx, ex, C, dd, fs, v, ec, T, hno, ed, ea, l, q⟩ := hh
  subst ex
  obtain rfl : u = Value.ref a := rx
  subst ec
  subst ed
  have hz := Z.z.zc
  obtain ⟨ha, _⟩ := I1.pin (a, oe) (List.mem_append_left _ hp)
  obtain ⟨vs, hd⟩ := Z.f
  have hx : ObjOk X.prog X.w H1 s1.heap dd (.xd fs) := I1.hok dd _ ea
  obtain ⟨mA, hns, hr⟩ := hx
  obtain ⟨od, ho, hl⟩ := lookIn_ns hns
  obtain ⟨u, hu, ru⟩ := RelO.some_of (v := v) (o := mA n) (by rw [← l]; exact hr n)
  have J : PySem.W.InstAt s1.heap a oe C (some od) := ⟨ha, hz.1, by unfold PySem.W.notCls; rw [hd] <;> rfl, by rw [hz.2]; exact ho⟩
  exact HandSPX.exc_get I1.kIn J T.hg T.hk T.ox.exC (PySem.W.findObj_own T.hd hno rfl (by rw [hl, hu])) (handed_of ru) ⟨v, H1, I1.tok _, ru, q⟩
/-! ### defs called where an exception is handled, that may know it -/
abbrev SpP := Addr → Value → Option Addr → Sp
structure FnHP (P : Program) (w : World) (K : PySem.W.Frag) (mg : Str → Option Value) (base : Heap) (CX : CXT) (k : Nat) (f : Addr) (fd : FuncData) (ps : List Str) (sp : SpP) : Prop where
  len : ∀ a cls d vs H Q E, sp a cls d vs H Q E → vs.length = ps.length
  run : ∀ (A : Around) (outer : List Env) (s : Shared) (H : Hp) (args : Args) (us : List Value) (vs : List V) (Q : VK) (E : XK) (p : Addr × Obj) (cls : Value) (d : Option Addr), L2H.RoomH k A → L2H.Hot1 A p → PinE cls d p.2 → L2H.PinOk outer H s p → Env0 P w K mg base A outer s H → BindsTo s fd args (ps.zip us) → Vals vs us → sp p.1 cls d vs H Q E →
    codeAny (model P w) A (.call (.ref f) args) (CR CX outer P w H s Q E) s
theorem fn_ofHP {CX : CXT} {P : Program} {w : World} {K : PySem.W.Frag} {mg : Str → Option Value} {base : Heap} {k : Nat} {f : Addr} {name qual : Str} {params : Arguments} {body : List Stmt} {scope : Scope} {dV kV doc pm cdv ct oc : Value} {an od : Option Addr}
    {osl : Array (Option Value)} {N ps : List Str} {sp : SpP} (lk : K.lookup f = some ⟨oc, od, .func (PySem.W.fnOf name qual params body scope dV kV doc pm an cdv ct), osl⟩) (hcd : PySem.W.codeIn K cdv qual = true) (S : FnScope N ps scope)
    (len : ∀ a cls d vs H Q E, sp a cls d vs H Q E → vs.length = ps.length)
    (hbody : ∀ (A : Around) (outer : List Env) (s : Shared) (H : Hp) (vs : List V) (Q : VK) (E : XK) (p : Addr × Obj) (cls : Value) (d : Option Addr), L2H.Hot1 A p → PinE cls d p.2 → L2H.RoomH k (A.deeper (envOfC qual scope s.heap.objs.size f cdv)) → sp p.1 cls d vs H Q E →
      ∃ t, PSs (L2H.cxH CX P w K mg base N qual scope f cdv A outer s H E p) body t ∧ t { nx := fun _ H' => Q .non H', rt := Q } (L2.start N vs) H) :
    FnHP P w K mg base CX (k + 1) f (PySem.W.fnOf name qual params body scope dV kV doc pm an cdv ct) ps sp := by
  refine ⟨len, fun A outer s H args us vs Q E p cls d hr hot Z hpin e0 hb r hsp => ?_⟩
  have hl := len _ _ _ _ _ _ _ hsp
  have KX : K.In s.heap := e0.mod.kin.keeps fun b o e => (e0.bs b o e).1
  have lim : s.heap.NoLimit := e0.mod.nolimit.keeps fun b o e => (e0.bs b o e).1
  have hkind : ∀ y ∈ ps.zip us, scope.names.lookup y.1 = some .local ∨ (scope.names.lookup y.1 = some .cell ∧ ((cellsFrom (s.heap.objs.size + 1) scope.names []).lookup y.1).isSome = true) := fun ⟨n, v⟩ hy => by
    rcases S.par n (List.of_mem_zip hy).1 with q | q
    · exact .inl q
    · exact .inr ⟨q, PySem.W.cellsFrom_some _ _ _ (.inl q)⟩
  refine codeAny_call_function hr.depth (KX _ _ lk) rfl S.co S.gen rfl (PySem.W.codeRec_of KX hcd) (hb _ _ _ _ ?_)
  refine wpAny_newFunctionEnv_cells S.kind hkind fun env he s1 x => ?_
  subst he
  refine ⟨lim.keeps x.toInCall.keep, codeAny_func ?_⟩
  obtain ⟨t, ht, hq⟩ := hbody A outer s H vs Q E p cls d hot Z (hr.deeper _) hsp
  have I : Inv (L2H.cxH CX P w K mg base N qual scope f cdv A outer s H E p) [] (L2.start N vs) H s1 := L2H.inv_startH S hpin e0 hl r x
  refine wpAny_mono (ht.run [] s1 (L2.start N vs) H _ I hq) (fun fl s' hs => ?_) fun e s' hs => hs
  have fin : ∀ {σ' : L2.St} {H' : Hp} {v : V} {u : Value}, Inv (L2H.cxH CX P w K mg base N qual scope f cdv A outer s H E p) [] σ' H' s' → RelV v u → Q v H' → CE outer P w H s Q u s' :=
    fun {σ' H' v u} J rv q => ⟨v, H', J.os, J.bare, J.base, J.hok, rv, q⟩
  cases fl with
  | ret u =>
    obtain ⟨v, σ', H', J, rv, q⟩ := hs
    exact fin J rv q
  | next =>
    obtain ⟨σ', H', J, q⟩ := hs
    exact fin (v := V.non) (u := Value.none) J rfl q
  | brk =>
    obtain ⟨_, _, _, q⟩ := hs
    exact False.elim q
  | cont =>
    obtain ⟨_, _, _, q⟩ := hs
    exact False.elim q
theorem okHP {P : Program} {w : World} {K : PySem.W.Frag} {mg : Str → Option Value} {base : Heap} {x qual : Str} {st : Stmt} {f : Addr} {fd : FuncData} {N ps : List Str} {k : Nat} {sp : SpP} {CX : CXT} (F : Fun K x qual st f fd) (S : FnScope N ps (defScope st)) (len : ∀ a cls d vs H Q E, sp a cls d vs H Q E → vs.length = ps.length)
    (hbody : ∀ (cdv : Value) (A : Around) (outer : List Env) (s : Shared) (H : Hp) (vs : List V) (Q : VK) (E : XK) (p : Addr × Obj) (cls : Value) (d : Option Addr), L2H.Hot1 A p → PinE cls d p.2 → L2H.RoomH k (A.deeper (envOfC qual (defScope st) s.heap.objs.size f cdv)) → sp p.1 cls d vs H Q E →
      ∃ t, PSs (L2H.cxH CX P w K mg base N qual (defScope st) f cdv A outer s H E p) (defBody st) t ∧ t { nx := fun _ H' => Q .non H', rt := Q } (L2.start N vs) H) : FnHP P w K mg base CX (k + 1) f fd ps sp := by
  obtain ⟨oc, od, kV, doc, pm, an, cdv, ct, osl, rfl, lk, hcd⟩ := F.ex
  exact fn_ofHP lk hcd S len fun A outer s H vs Q E p cls d hot Z hr hsp => hbody cdv A outer s H vs Q E p cls d hot Z hr hsp
section
variable {X : Cx} {CX : CXT} {k : Nat} {f C : Addr} {fd : FuncData} {ps : List Str} {sp : SpP} {E : L2.St → XK} {x m : Str} {q pos apos : Pos} {e o : Expr} {es : List Expr} {ta : TE} {t : TA} {p : Addr × Obj} {cls : Value} {d : Option Addr}
theorem run_fnHP {pins : List (Addr × Obj)} {σ : L2.St} {H : Hp} {s : Shared} {Q : VK} {us : List Value} {vs : List V} (F : FnHP X.prog X.w X.K X.mg X.base CX k f fd ps sp) (hr : L2H.RoomH k X.A) (hot : L2H.Hot1 X.A p) (Z : PinE cls d p.2) (hp : p ∈ X.pn) (hb : Binds X.K fd ps []) (hx : PassesAt CX X σ (E σ))
    (I : Inv X pins σ H s) (r : Vals vs us) (h : sp p.1 cls d vs H Q (E σ)) : wpAny (model X.prog X.w) X.A (call (.ref f) us) (EP X pins σ Q) X.xe s := by
  have hl : us.length = ps.length := by rw [← r.length]; exact F.len _ _ _ _ _ _ _ h
  have b := hb s us I.kIn (by rw [List.append_nil]; exact hl)
  rw [List.append_nil] at b
  have P1 := I.pin p (List.mem_append_left _ hp)
  have hpin : L2H.PinOk X.stack H s p := ⟨P1.1, P1.2.1, fun hm => (List.mem_cons.mp (I.stkSub p.1 hm)).elim P1.2.2.1 P1.2.2.2.1, P1.2.2.2.2⟩
  refine wpAny_call (codeAny_mono (F.run X.A X.stack s H ⟨us, []⟩ us vs Q (E σ) p cls d hr hot Z hpin I.env0 b r h) fun r s' hq => ?_)
  cases r with
  | error e => exact hx pins H s e s' I hq
  | ok fl =>
    cases fl with
    | ret u => exact I.after hq
    | next => exact False.elim hq
    | brk => exact False.elim hq
    | cont => exact False.elim hq
theorem pe_callHP {a : Addr} {oe : Obj} (F : FnHP X.prog X.w X.K X.mg X.base CX k f fd ps sp) (hr : L2H.RoomH k X.A) (hot : L2H.Hot1 X.A (a, oe)) (Z : PinE cls d oe) (hp : (a, oe) ∈ X.pn) (hg : Gl X x) (hm : X.mg x = some (.ref f)) (hk : PySem.W.keepIn X.K (.ref f) = true) (hb : Binds X.K fd ps []) (hx : ∀ σ, PassesAt CX X σ (E σ))
    (ha : PA X (e :: es) t) (hdb : (x == ("__debug__" : Str)) = false := by decide) (he : starEach (e :: es) X.env = (false, eval e X.env) :: starEach es X.env := by rfl) (hpl : (backTo pos (starEach es X.env)).any (·.1) = false := by rfl) :
    PE X (.Call (.Name x q) (e :: es) [] pos) (tCallS (sp a cls d) E t) := by
  refine ⟨fun pins s σ H Q I h => ?_⟩
  refine wpAny_Call_Name_kw (ld_glob I hg hm ?_ hdb)
  refine PySem.W.callWith_K (h₀ := X.base) I.ok.mod.kin hk (thn (ha.run pos pins s σ H _ I h) fun us s1 ⟨vs, H1, I1, r, q⟩ => ⟨I1.kIn, ?_⟩) he hpl
  exact run_fnHP (p := (a, oe)) F hr hot Z hp hb (hx σ) I1 r q
end
theorem suite_hot {X : Cx} {a : Addr} {oe : Obj} {cls : Value} {d : Option Addr} {pn : List (Addr × Obj)} (Z : PinE cls d oe) : L2H.Hot1 (X.suite a ((a, oe) :: pn)).A (a, oe) := by
  obtain ⟨vs, hv⟩ := Z.f
  exact ⟨rfl, vs, hv, Z.z.2.2 vs hv⟩
theorem huH_of {A : Around} {k : Nat} (hr : L2H.RoomH k A) : A.units + 64 < cLine := by have := hr.un; omega
theorem hu1H_of {A : Around} {k : Nat} (hr : L2H.RoomH k A) : A.units + 1 < cLine := by have := hr.un; omega
theorem roomS {X : Cx} {k : Nat} {a : Addr} {pn : List (Addr × Obj)} (hr : Room k X.A) : L2H.RoomH k (X.suite a pn).A := ⟨hr.dp, hr.un⟩
theorem takes0N {X : Cx} : L2N.Takes X (fun _ _ _ _ => False) := fun _ _ x => by
  obtain ⟨_, _, _, _, _, _, _, _, _, _, _, _, _, _, _, _, z⟩ := x
  exact z.elim
/-! ### an own exception with one field -/
def StrOk : V → Prop
  | .int i => i.natAbs.log2 < 1920
  | .str _ => True
  | _ => False
def sp_exc1 (C : Addr) (f : Str) : Sp := fun vs H Q _ => ∃ (a : Addr) (x : V), vs = [.ref a, x] ∧ StrOk x ∧ H a = some (exo a C none) ∧ ∀ dx, H dx = none → dx ≠ a → Q .non (L2.upd (L2.upd H dx (exd dx [(f, x)])) a (exo a C (some dx)))
theorem exc1_go {x : V} {H : Hp} {Q : VK} (hx : StrOk x) (h : ∀ z, Q (.str z) H) : rStrU [x] H Q := by
  cases x with
  | int i => exact ⟨hx, h _⟩
  | str z => exact h _
  | _ => exact hx.elim
theorem exc1_mk {C : Addr} {f : Str} {x : V} {H : Hp} {Q : XK} {E : XK} (hx : StrOk x) (h : ∀ d, H d = none → Q (.ref C) (some d) (L2.upd H d (.xd [(f, x)]))) :
    [x].length ≤ 1000 ∧ ∀ a, H a = none → sp_exc1 C f (.ref a :: ([x] ++ [])) (L2.upd H a (exo a C none))
      (fun v H2 => v = .non ∧ ∃ (d : Addr) (fs : List (Str × V)), H2 a = some (exo a C (some d)) ∧ H2 d = some (exd d fs) ∧ H d = none ∧ Q (.ref C) (some d) (L2.upd (del H2 a) d (.xd fs))) E := by
  refine ⟨(by show 1 ≤ 1000; decide), fun a ha => ⟨a, x, rfl, hx, upd_same, fun dx h1 h2 => ⟨rfl, dx, _, upd_same, by rw [upd_ne h2]; exact upd_same, by rw [upd_ne h2] at h1; exact h1, ?_⟩⟩⟩
  have e : L2.upd (del (L2.upd (L2.upd (L2.upd H a (exo a C none)) dx (exd dx [(f, x)])) a (exo a C (some dx))) a) dx (.xd [(f, x)]) = L2.upd H dx (.xd [(f, x)]) := by
    funext b
    by_cases hb : b = dx
    · subst hb; rw [upd_same, upd_same]
    · rw [upd_ne hb, upd_ne hb]
      by_cases hba : b = a
      · subst hba; rw [del_same, ha]
      · rw [del_ne hba, upd_ne hba, upd_ne hb, upd_ne hba]
  rw [e]
  exact h dx (by rw [upd_ne h2] at h1; exact h1)
/-! ### rules with the law's own K, for a try's body and suite -/
section
variable {X : Cx} {K : PySem.W.Frag}
theorem pe_bmK {T name id : String} {r : V → List V → Hp → VK → Prop} {o e : Expr} {es : List Expr} {apos cpos : Pos} {to : TE} {t : TA} (eK : X.K = K) (pa : PlainAttrs T) (slot : Slot T name id) (hty : typeOf (.builtin id) = pure (.type "method_descriptor")) (hm : MtR X id r) (ho : PE X o to) (ha : PA X (e :: es) t)
    (hbase : attributeBase o name X.env (eval o X.env) = eval o X.env := by rfl)
    (hfew : ((backTo cpos (starEach (e :: es) X.env)).all (fun x => !x.1) && (backToKw cpos (keywordEach [] X.env)).all (fun x => x.1.isSome)
      && decide ((e :: es).length + ([] : List Keyword).length + (if ([] : List Keyword).isEmpty then 0 else 1) < 30)) = true := by rfl)
    (hline : (apos.endLine == cpos.line) = true := by rfl) (hs : starEach (e :: es) X.env = (false, eval e X.env) :: starEach es X.env := by rfl) (hplain : (backTo cpos (starEach es X.env)).any (·.1) = false := by rfl) :
    PE X (.Call (.Attribute o name apos) (e :: es) [] cpos) (tBM K T r to t) := by subst eK; exact pe_bm pa slot hty hm ho ha hbase hfew hline hs hplain
theorem call_isiK (eK : X.K = K) : CallR X (.builtin "isinstance") (rIsi K) := by subst eK; exact call_isi
theorem call_isPK {a : Addr} {oe : Obj} {cls : Value} {d : Option Addr} (eK : X.K = K) (hp : (a, oe) ∈ X.pn) (Z : PinE cls d oe) : CallR X (.builtin "isinstance") (rIsP K a cls d) := by subst eK; exact call_isP hp Z
theorem pe_xfPK {a : Addr} {oe : Obj} {cls : Value} {d : Option Addr} {e : Expr} {te : TE} {pos : Pos} {n : Str} (eK : X.K = K) (hp : (a, oe) ∈ X.pn) (Z : PinE cls d oe) (he : PE X e te) (hb : attributeBase e n X.env (eval e X.env) = eval e X.env := by rfl) :
    PE X (.Attribute e n pos) (tXfP K a cls d n te) := by subst eK; exact pe_xfP hp Z he hb
theorem pe_notTK {a : Expr} {ta : TE} {pos : Pos} (eK : X.K = K) (ha : PE X a ta) : PE X (.UnaryOp .Not a pos) (tNotT K ta) := by subst eK; exact pe_notT ha
end
def tTryAs (K : PySem.W.Frag) (c : Value) (i : Nat) (ts : Addr → Value → Option Addr → TS) (Wout : WX) (tb : WX → TS) : TS := fun D σ H => tb (wAs K c i ts Wout D) D σ H
theorem ps_tryAs {X : Cx} {K : PySem.W.Frag} {x n : Str} {c : Value} {i : Nat} {body suite : List Stmt} {b₀ : Stmt} {np pos pos' : Pos} {tb : WX → TS} {ts : Addr → Value → Option Addr → TS} {Wout : WX} (eK : X.K = K)
    (hs : X.stack = X.env :: X.outer) (hf : X.env.frame = some X.env.locals) (hN : X.N.Nodup) (hi : X.N[i]? = some n) (hln : X.env.kindOf n = some .local) (hc : Names X x c) (tk : L2N.Takes X Wout)
    (hb : ∀ (W : WX) (pn : List (Addr × Obj)) (xe : Value → Shared → Prop), L2N.Takes (X.tr pn xe) W → PassesOwn (model X.prog X.w) X.A X.env xe → PSs (X.tr pn xe) body (tb W))
    (hsu : ∀ (a : Addr) (oe : Obj) (cls : Value) (d : Option Addr) (pn : List (Addr × Obj)), L2N.Zn cls d oe → (∃ vs, oe.data = .fields vs) → PSs (X.suite a ((a, oe) :: pn)) (b₀ :: suite) (ts a cls d)) :
    PS X (.Try body [.ExceptHandler (some (.Name x np)) (some n) (b₀ :: suite) pos'] [] [] pos) (tTryAs K c i ts Wout tb) := by subst eK; exact L2N.ps_try_as hs hf hN hi hln hc tk hb hsu
end LX
namespace LX
open PySem PySem.Spec PyProof.Rows L2 NdefX
def top (i : Nat) : Stmt := PySem.Challenge.pw_saggar_k00_words_back_and_forth.main.body.getD i (.Pass ⟨0, 0, 0, 0⟩)
abbrev s_BadWord___init__ : Stmt := inClass (top 2) 0
abbrev N_BadWord___init__ : List Str := ["self", "word"]
theorem ns_BadWord___init__ : NScope ["self", "word", "__class__"] ["self", "word"] ["__class__"] (defScope s_BadWord___init__) := nscope_by (by decide +kernel)
abbrev s_fits : Stmt := top 9
abbrev N_fits : List Str := ["number"]
theorem sc_fits : FnScope N_fits ["number"] (defScope s_fits) := ⟨rfl, rfl, rfl, by decide +kernel, rfl, by decide +kernel, by decide +kernel⟩
abbrev s_of_int : Stmt := top 10
abbrev N_of_int : List Str := ["number"]
theorem sc_of_int : FnScope N_of_int ["number"] (defScope s_of_int) := ⟨rfl, rfl, rfl, by decide +kernel, rfl, by decide +kernel, by decide +kernel⟩
abbrev s_of_symbol : Stmt := top 11
abbrev N_of_symbol : List Str := ["number"]
theorem sc_of_symbol : FnScope N_of_symbol ["number"] (defScope s_of_symbol) := ⟨rfl, rfl, rfl, by decide +kernel, rfl, by decide +kernel, by decide +kernel⟩
abbrev s_of_ref : Stmt := top 12
abbrev N_of_ref : List Str := ["number"]
theorem sc_of_ref : FnScope N_of_ref ["number"] (defScope s_of_ref) := ⟨rfl, rfl, rfl, by decide +kernel, rfl, by decide +kernel, by decide +kernel⟩
abbrev s_is_int : Stmt := top 13
abbrev N_is_int : List Str := ["word"]
theorem sc_is_int : FnScope N_is_int ["word"] (defScope s_is_int) := ⟨rfl, rfl, rfl, by decide +kernel, rfl, by decide +kernel, by decide +kernel⟩
abbrev s_is_symbol : Stmt := top 14
abbrev N_is_symbol : List Str := ["word"]
theorem sc_is_symbol : FnScope N_is_symbol ["word"] (defScope s_is_symbol) := ⟨rfl, rfl, rfl, by decide +kernel, rfl, by decide +kernel, by decide +kernel⟩
abbrev s_is_ref : Stmt := top 15
abbrev N_is_ref : List Str := ["word"]
theorem sc_is_ref : FnScope N_is_ref ["word"] (defScope s_is_ref) := ⟨rfl, rfl, rfl, by decide +kernel, rfl, by decide +kernel, by decide +kernel⟩
abbrev s_int_of : Stmt := top 16
abbrev N_int_of : List Str := ["word"]
theorem sc_int_of : FnScope N_int_of ["word"] (defScope s_int_of) := ⟨rfl, rfl, rfl, by decide +kernel, rfl, by decide +kernel, by decide +kernel⟩
abbrev s_symbol_of : Stmt := top 17
abbrev N_symbol_of : List Str := ["word"]
theorem sc_symbol_of : FnScope N_symbol_of ["word"] (defScope s_symbol_of) := ⟨rfl, rfl, rfl, by decide +kernel, rfl, by decide +kernel, by decide +kernel⟩
abbrev s_ref_of : Stmt := top 18
abbrev N_ref_of : List Str := ["word"]
theorem sc_ref_of : FnScope N_ref_of ["word"] (defScope s_ref_of) := ⟨rfl, rfl, rfl, by decide +kernel, rfl, by decide +kernel, by decide +kernel⟩
abbrev s_is_word : Stmt := top 19
abbrev N_is_word : List Str := ["word"]
theorem sc_is_word : FnScope N_is_word ["word"] (defScope s_is_word) := ⟨rfl, rfl, rfl, by decide +kernel, rfl, by decide +kernel, by decide +kernel⟩
abbrev s__law_integer : Stmt := top 21
abbrev N__law_integer : List Str := ["_law_cell", "_law_bases", "_law_base"]
theorem sc__law_integer : FnScope N__law_integer ["_law_cell"] (defScope s__law_integer) := ⟨rfl, rfl, rfl, by decide +kernel, rfl, by decide +kernel, by decide +kernel⟩
abbrev s__law_is : Stmt := top 22
abbrev N__law_is : List Str := ["_law_actual", "_law_due"]
theorem sc__law_is : FnScope N__law_is ["_law_actual", "_law_due"] (defScope s__law_is) := ⟨rfl, rfl, rfl, by decide +kernel, rfl, by decide +kernel, by decide +kernel⟩
abbrev s__law_error : Stmt := top 23
abbrev N__law_error : List Str := ["_law_e", "_law_number"]
theorem sc__law_error : FnScope N__law_error ["_law_e", "_law_number"] (defScope s__law_error) := ⟨rfl, rfl, rfl, by decide +kernel, rfl, by decide +kernel, by decide +kernel⟩
abbrev s__law_made : Stmt := top 24
abbrev N__law_made : List Str := ["_law_number", "_law_due", "_law_told", "_law_k", "_law_e"]
theorem sc__law_made : FnScope N__law_made ["_law_number"] (defScope s__law_made) := ⟨rfl, rfl, rfl, by decide +kernel, rfl, by decide +kernel, by decide +kernel⟩
abbrev s__law_read : Stmt := top 25
abbrev N__law_read : List Str := ["_law_word", "_law_rest", "_law_due", "_law_told", "_law_k", "_law_e"]
theorem sc__law_read : FnScope N__law_read ["_law_word"] (defScope s__law_read) := ⟨rfl, rfl, rfl, by decide +kernel, rfl, by decide +kernel, by decide +kernel⟩
abbrev s__law_is_word : Stmt := top 26
abbrev N__law_is_word : List Str := ["_law_word", "_law_rest"]
theorem sc__law_is_word : FnScope N__law_is_word ["_law_word"] (defScope s__law_is_word) := ⟨rfl, rfl, rfl, by decide +kernel, rfl, by decide +kernel, by decide +kernel⟩
abbrev s_law : Stmt := top 27
abbrev N_law : List Str := ["_law_script", "_law_cells", "_law_cell", "_law_number"]
theorem sc_law : FnScope N_law ["_law_script"] (defScope s_law) := ⟨rfl, rfl, rfl, by decide +kernel, rfl, by decide +kernel, by decide +kernel⟩
structure Wd (P : Program) (K : PySem.W.Frag) (mg : Str → Option Value) where
  n_ValueError : mg "ValueError" = none
  n_bool : mg "bool" = none
  n_int : mg "int" = none
  n_isinstance : mg "isinstance" = none
  n_range : mg "range" = none
  n_str : mg "str" = none
  t_NIL : Tok
  g_NIL : mg "NIL" = some (.int (0) t_NIL)
  t_LEAST : Tok
  g_LEAST : mg "LEAST" = some (.int (-268435456) t_LEAST)
  t_GREATEST : Tok
  g_GREATEST : mg "GREATEST" = some (.int (268435455) t_GREATEST)
  t_MOST : Tok
  g_MOST : mg "MOST" = some (.int (100000) t_MOST)
  c_SaggarError : Addr
  g_SaggarError : mg "SaggarError" = some (.ref c_SaggarError)
  c_BadWord : Addr
  g_BadWord : mg "BadWord" = some (.ref c_BadWord)
  c_NoRoom : Addr
  g_NoRoom : mg "NoRoom" = some (.ref c_NoRoom)
  f_BadWord___init__ : Addr
  fd_BadWord___init__ : FuncData
  X_BadWord : OexC K c_BadWord
  i_BadWord : PySem.W.findIn K (.ref c_BadWord) "__init__" = some (some (.ref f_BadWord___init__)) ∧ PySem.W.typeIn K (.ref f_BadWord___init__) = some (.type "function")
  cc_BadWord : Addr
  cda_BadWord : Addr
  S_BadWord : SupTxt P K mg c_BadWord cda_BadWord cc_BadWord (defScope s_BadWord___init__)
  L_BadWord : ∃ oc od kV dc pm an ct osl, K.lookup f_BadWord___init__ = some ⟨oc, od, .func fd_BadWord___init__, osl⟩ ∧ fd_BadWord___init__ = PySem.W.fnX "__init__" "BadWord.__init__" (defArgs s_BadWord___init__) (defBody s_BadWord___init__) (defScope s_BadWord___init__) [("__class__", cc_BadWord)] .none kV dc pm an (.ref cda_BadWord) ct ∧ PySem.W.codeIn K (.ref cda_BadWord) "BadWord.__init__" = true
  E_BadWord : ExK K c_BadWord
  xn_BadWord_word : PySem.W.findIn K (.ref c_BadWord) "word" = some none
  b_BadWord___init__ : Binds K fd_BadWord___init__ ["self", "word"] []
  f_fits : Addr
  fd_fits : FuncData
  F_fits : Fun K "fits" "fits" s_fits f_fits fd_fits
  g_fits : mg "fits" = some (.ref f_fits)
  b_fits : Binds K fd_fits ["number"] []
  f_of_int : Addr
  fd_of_int : FuncData
  F_of_int : Fun K "of_int" "of_int" s_of_int f_of_int fd_of_int
  g_of_int : mg "of_int" = some (.ref f_of_int)
  b_of_int : Binds K fd_of_int ["number"] []
  f_of_symbol : Addr
  fd_of_symbol : FuncData
  F_of_symbol : Fun K "of_symbol" "of_symbol" s_of_symbol f_of_symbol fd_of_symbol
  g_of_symbol : mg "of_symbol" = some (.ref f_of_symbol)
  b_of_symbol : Binds K fd_of_symbol ["number"] []
  f_of_ref : Addr
  fd_of_ref : FuncData
  F_of_ref : Fun K "of_ref" "of_ref" s_of_ref f_of_ref fd_of_ref
  g_of_ref : mg "of_ref" = some (.ref f_of_ref)
  b_of_ref : Binds K fd_of_ref ["number"] []
  f_is_int : Addr
  fd_is_int : FuncData
  F_is_int : Fun K "is_int" "is_int" s_is_int f_is_int fd_is_int
  g_is_int : mg "is_int" = some (.ref f_is_int)
  b_is_int : Binds K fd_is_int ["word"] []
  f_is_symbol : Addr
  fd_is_symbol : FuncData
  F_is_symbol : Fun K "is_symbol" "is_symbol" s_is_symbol f_is_symbol fd_is_symbol
  g_is_symbol : mg "is_symbol" = some (.ref f_is_symbol)
  b_is_symbol : Binds K fd_is_symbol ["word"] []
  f_is_ref : Addr
  fd_is_ref : FuncData
  F_is_ref : Fun K "is_ref" "is_ref" s_is_ref f_is_ref fd_is_ref
  g_is_ref : mg "is_ref" = some (.ref f_is_ref)
  b_is_ref : Binds K fd_is_ref ["word"] []
  f_int_of : Addr
  fd_int_of : FuncData
  F_int_of : Fun K "int_of" "int_of" s_int_of f_int_of fd_int_of
  g_int_of : mg "int_of" = some (.ref f_int_of)
  b_int_of : Binds K fd_int_of ["word"] []
  f_symbol_of : Addr
  fd_symbol_of : FuncData
  F_symbol_of : Fun K "symbol_of" "symbol_of" s_symbol_of f_symbol_of fd_symbol_of
  g_symbol_of : mg "symbol_of" = some (.ref f_symbol_of)
  b_symbol_of : Binds K fd_symbol_of ["word"] []
  f_ref_of : Addr
  fd_ref_of : FuncData
  F_ref_of : Fun K "ref_of" "ref_of" s_ref_of f_ref_of fd_ref_of
  g_ref_of : mg "ref_of" = some (.ref f_ref_of)
  b_ref_of : Binds K fd_ref_of ["word"] []
  f_is_word : Addr
  fd_is_word : FuncData
  F_is_word : Fun K "is_word" "is_word" s_is_word f_is_word fd_is_word
  g_is_word : mg "is_word" = some (.ref f_is_word)
  b_is_word : Binds K fd_is_word ["word"] []
  f__law_integer : Addr
  fd__law_integer : FuncData
  F__law_integer : Fun K "_law_integer" "_law_integer" s__law_integer f__law_integer fd__law_integer
  g__law_integer : mg "_law_integer" = some (.ref f__law_integer)
  b__law_integer : Binds K fd__law_integer ["_law_cell"] []
  f__law_is : Addr
  fd__law_is : FuncData
  F__law_is : Fun K "_law_is" "_law_is" s__law_is f__law_is fd__law_is
  g__law_is : mg "_law_is" = some (.ref f__law_is)
  b__law_is : Binds K fd__law_is ["_law_actual", "_law_due"] []
  f__law_error : Addr
  fd__law_error : FuncData
  F__law_error : Fun K "_law_error" "_law_error" s__law_error f__law_error fd__law_error
  g__law_error : mg "_law_error" = some (.ref f__law_error)
  b__law_error : Binds K fd__law_error ["_law_e", "_law_number"] []
  f__law_made : Addr
  fd__law_made : FuncData
  F__law_made : Fun K "_law_made" "_law_made" s__law_made f__law_made fd__law_made
  g__law_made : mg "_law_made" = some (.ref f__law_made)
  b__law_made : Binds K fd__law_made ["_law_number"] []
  f__law_read : Addr
  fd__law_read : FuncData
  F__law_read : Fun K "_law_read" "_law_read" s__law_read f__law_read fd__law_read
  g__law_read : mg "_law_read" = some (.ref f__law_read)
  b__law_read : Binds K fd__law_read ["_law_word"] []
  f__law_is_word : Addr
  fd__law_is_word : FuncData
  F__law_is_word : Fun K "_law_is_word" "_law_is_word" s__law_is_word f__law_is_word fd__law_is_word
  g__law_is_word : mg "_law_is_word" = some (.ref f__law_is_word)
  b__law_is_word : Binds K fd__law_is_word ["_law_word"] []
  f_law : Addr
  fd_law : FuncData
  F_law : Fun K "law" "law" s_law f_law fd_law
  g_law : mg "law" = some (.ref f_law)
  b_law : Binds K fd_law ["_law_script"] []
  kb_S : PySem.W.kitOne K (.ref c_BadWord) (.ref c_SaggarError) = some true
  kb_V : PySem.W.kitOne K (.ref c_BadWord) (.type "ValueError") = some true
  kb_N : PySem.W.kitOne K (.ref c_BadWord) (.ref c_NoRoom) = some false
  em_B : PySem.W.exmOne K (.ref c_BadWord) (.ref c_BadWord) = some true
def mkW {l : PySem.W.OpenLaw} {K : PySem.W.Frag} {h : Heap} {mg : Str → Option Value} (X : K.In h) (G : h.Ns mainGlobals mg)
    {t_NIL : Tok}
    {t_LEAST : Tok}
    {t_GREATEST : Tok}
    {t_MOST : Tok}
    {C_SaggarError : Addr}
    {C_BadWord : Addr}
    {C_NoRoom : Addr}
    {ocBadWord___init__ kVBadWord___init__ dcBadWord___init__ pmBadWord___init__ cdBadWord___init__ ctBadWord___init__ : Value} {odBadWord___init__ anBadWord___init__ : Option Addr} {slBadWord___init__ : Array (Option Value)} {fBadWord___init__ : Addr}
    {cdaBadWord___init__ ccBadWord___init__ : Addr} {cclBadWord___init__ coBadWord___init__ : Value} {cddBadWord___init__ cldBadWord___init__ : Option Addr} {vsBadWord___init__ : Array Value} {ccsBadWord___init__ cslBadWord___init__ : Array (Option Value)} {fileBadWord___init__ : Str} {tfBadWord___init__ : Tok}
    {nmBadWord qBadWord : Str} {NBadWord : Addr} {bsBadWord bmBadWord : List Value} {snBadWord : List Str} {subBadWord : List Value} {abBadWord : Bool} {colBadWord : Option Bool} {ddBadWord : Option Addr} {m0BadWord m1BadWord m2BadWord m3BadWord m5BadWord : Option Value}
    {ocfits kVfits dcfits pmfits cdfits ctfits : Value} {odfits anfits : Option Addr} {slfits : Array (Option Value)} {ffits : Addr}
    {ocof_int kVof_int dcof_int pmof_int cdof_int ctof_int : Value} {odof_int anof_int : Option Addr} {slof_int : Array (Option Value)} {fof_int : Addr}
    {ocof_symbol kVof_symbol dcof_symbol pmof_symbol cdof_symbol ctof_symbol : Value} {odof_symbol anof_symbol : Option Addr} {slof_symbol : Array (Option Value)} {fof_symbol : Addr}
    {ocof_ref kVof_ref dcof_ref pmof_ref cdof_ref ctof_ref : Value} {odof_ref anof_ref : Option Addr} {slof_ref : Array (Option Value)} {fof_ref : Addr}
    {ocis_int kVis_int dcis_int pmis_int cdis_int ctis_int : Value} {odis_int anis_int : Option Addr} {slis_int : Array (Option Value)} {fis_int : Addr}
    {ocis_symbol kVis_symbol dcis_symbol pmis_symbol cdis_symbol ctis_symbol : Value} {odis_symbol anis_symbol : Option Addr} {slis_symbol : Array (Option Value)} {fis_symbol : Addr}
    {ocis_ref kVis_ref dcis_ref pmis_ref cdis_ref ctis_ref : Value} {odis_ref anis_ref : Option Addr} {slis_ref : Array (Option Value)} {fis_ref : Addr}
    {ocint_of kVint_of dcint_of pmint_of cdint_of ctint_of : Value} {odint_of anint_of : Option Addr} {slint_of : Array (Option Value)} {fint_of : Addr}
    {ocsymbol_of kVsymbol_of dcsymbol_of pmsymbol_of cdsymbol_of ctsymbol_of : Value} {odsymbol_of ansymbol_of : Option Addr} {slsymbol_of : Array (Option Value)} {fsymbol_of : Addr}
    {ocref_of kVref_of dcref_of pmref_of cdref_of ctref_of : Value} {odref_of anref_of : Option Addr} {slref_of : Array (Option Value)} {fref_of : Addr}
    {ocis_word kVis_word dcis_word pmis_word cdis_word ctis_word : Value} {odis_word anis_word : Option Addr} {slis_word : Array (Option Value)} {fis_word : Addr}
    {oc_law_integer kV_law_integer dc_law_integer pm_law_integer cd_law_integer ct_law_integer : Value} {od_law_integer an_law_integer : Option Addr} {sl_law_integer : Array (Option Value)} {f_law_integer : Addr}
    {oc_law_is kV_law_is dc_law_is pm_law_is cd_law_is ct_law_is : Value} {od_law_is an_law_is : Option Addr} {sl_law_is : Array (Option Value)} {f_law_is : Addr}
    {oc_law_error kV_law_error dc_law_error pm_law_error cd_law_error ct_law_error : Value} {od_law_error an_law_error : Option Addr} {sl_law_error : Array (Option Value)} {f_law_error : Addr}
    {oc_law_made kV_law_made dc_law_made pm_law_made cd_law_made ct_law_made : Value} {od_law_made an_law_made : Option Addr} {sl_law_made : Array (Option Value)} {f_law_made : Addr}
    {oc_law_read kV_law_read dc_law_read pm_law_read cd_law_read ct_law_read : Value} {od_law_read an_law_read : Option Addr} {sl_law_read : Array (Option Value)} {f_law_read : Addr}
    {oc_law_is_word kV_law_is_word dc_law_is_word pm_law_is_word cd_law_is_word ct_law_is_word : Value} {od_law_is_word an_law_is_word : Option Addr} {sl_law_is_word : Array (Option Value)} {f_law_is_word : Addr}
    {oclaw kVlaw dclaw pmlaw cdlaw ctlaw : Value} {odlaw anlaw : Option Addr} {sllaw : Array (Option Value)} {flaw : Addr}
    (z_third : PySem.W.nsIn K cStatics "thirdparty.any" = some none) (z_super : PySem.W.nsIn K mainGlobals "super" = some none) (z_top : (l.prog.main.scope.names.lookup ("super" : Str)).isSome = false)
    (z_sg : PySem.W.specialIn K (.builtin "object.__class__") "__get__" = some (some (.builtin "getset_descriptor.__get__"))) (z_st : PySem.W.takesIn K (.builtin "object.__class__") = some true)
    (z_ValueError : PySem.W.nsIn K mainGlobals "ValueError" = some none)
    (z_bool : PySem.W.nsIn K mainGlobals "bool" = some none)
    (z_int : PySem.W.nsIn K mainGlobals "int" = some none)
    (z_isinstance : PySem.W.nsIn K mainGlobals "isinstance" = some none)
    (z_range : PySem.W.nsIn K mainGlobals "range" = some none)
    (z_str : PySem.W.nsIn K mainGlobals "str" = some none)
    (c_NIL : PySem.W.nsIn K mainGlobals "NIL" = some (some (.int (0) t_NIL)))
    (c_LEAST : PySem.W.nsIn K mainGlobals "LEAST" = some (some (.int (-268435456) t_LEAST)))
    (c_GREATEST : PySem.W.nsIn K mainGlobals "GREATEST" = some (some (.int (268435455) t_GREATEST)))
    (c_MOST : PySem.W.nsIn K mainGlobals "MOST" = some (some (.int (100000) t_MOST)))
    (cl_SaggarError : PySem.W.nsIn K mainGlobals "SaggarError" = some (some (.ref C_SaggarError)))
    (cl_BadWord : PySem.W.nsIn K mainGlobals "BadWord" = some (some (.ref C_BadWord)))
    (cl_NoRoom : PySem.W.nsIn K mainGlobals "NoRoom" = some (some (.ref C_NoRoom)))
    (a_BadWord___init__ : PySem.W.findIn K (.ref C_BadWord) "__init__" = some (some (.ref fBadWord___init__)))
    (l_BadWord___init__ : K.lookup fBadWord___init__ = some ⟨ocBadWord___init__, odBadWord___init__, .func (PySem.W.fnX "__init__" "BadWord.__init__" (defArgs s_BadWord___init__) (defBody s_BadWord___init__) (defScope s_BadWord___init__) [("__class__", ccBadWord___init__)] .none kVBadWord___init__ dcBadWord___init__ pmBadWord___init__ anBadWord___init__ (.ref cdaBadWord___init__) ctBadWord___init__), slBadWord___init__⟩)
    (c_BadWord___init__ : PySem.W.codeIn K (.ref cdaBadWord___init__) "BadWord.__init__" = true)
    (k_BadWord___init__ : PySem.W.typeIn K (.ref fBadWord___init__) = some (.type "function"))
    (x1_BadWord___init__ : K.lookup cdaBadWord___init__ = some ⟨cclBadWord___init__, cddBadWord___init__, .fields vsBadWord___init__, ccsBadWord___init__⟩)
    (x2_BadWord___init__ : vsBadWord___init__[2]? = some (.str fileBadWord___init__ tfBadWord___init__))
    (x3_BadWord___init__ : ((l.prog.main.file : Str) == fileBadWord___init__) = true)
    (x4_BadWord___init__ : K.lookup ccBadWord___init__ = some ⟨coBadWord___init__, cldBadWord___init__, .cell (some (.ref C_BadWord)), cslBadWord___init__⟩)
    (xl_BadWord : K.lookup C_BadWord = some (excClassObj nmBadWord qBadWord C_BadWord NBadWord bsBadWord bmBadWord true snBadWord subBadWord abBadWord colBadWord ddBadWord m0BadWord m1BadWord m2BadWord m3BadWord m5BadWord "ValueError.__new__"))
    (xr_BadWord : PySem.HandSPX.refsVE bmBadWord = true)
    (xs_BadWord : PySem.W.findIn K (.ref C_BadWord) "__setattr__" = some (some (.builtin "object.__setattr__")))
    (xe_BadWord : PySem.W.subIn K (.ref C_BadWord) (.type "BaseException") = some true)
    (xt_BadWord : PySem.W.typeIn K (.ref C_BadWord) = some (.type "type"))
    (xk_BadWord : PySem.W.keepIn K (.ref C_BadWord) = true)
    (xm_BadWord : PySem.W.mroIn K C_BadWord (.ref C_BadWord) = some true)
    (xi_BadWord : PySem.W.ks_superIn K C_BadWord C_BadWord "__init__" = some (some (.builtin "ValueError.__init__")))
    (xb_BadWord : PySem.W.subIn K (.ref C_BadWord) (.type "ValueError") = some true)
    (eg_BadWord : PySem.W.findIn K (.ref C_BadWord) "__getattribute__" = some (some (.builtin "BaseException.__getattribute__")))
    (ek_BadWord : PySem.W.findIn K (.ref C_BadWord) "__getattr__" = some none)
    (ed_BadWord : PySem.W.hasDictIn K C_BadWord = true)
    (ea_BadWord : PySem.W.findIn K (.ref C_BadWord) "__class__" = some (some (.builtin "object.__class__")))
    (em_BadWord : PySem.W.mroIn K C_BadWord (.type "object") = some true)
    (xn_BadWord_word : PySem.W.findIn K (.ref C_BadWord) "word" = some none)
    (a_fits : PySem.W.nsIn K mainGlobals "fits" = some (some (.ref ffits)))
    (l_fits : K.lookup ffits = some ⟨ocfits, odfits, .func (PySem.W.fnOf "fits" "fits" (defArgs s_fits) (defBody s_fits) (defScope s_fits) .none kVfits dcfits pmfits anfits cdfits ctfits), slfits⟩)
    (c_fits : PySem.W.codeIn K cdfits "fits" = true)
    (k_fits : PySem.W.keepIn K (.ref ffits) = true)
    (a_of_int : PySem.W.nsIn K mainGlobals "of_int" = some (some (.ref fof_int)))
    (l_of_int : K.lookup fof_int = some ⟨ocof_int, odof_int, .func (PySem.W.fnOf "of_int" "of_int" (defArgs s_of_int) (defBody s_of_int) (defScope s_of_int) .none kVof_int dcof_int pmof_int anof_int cdof_int ctof_int), slof_int⟩)
    (c_of_int : PySem.W.codeIn K cdof_int "of_int" = true)
    (k_of_int : PySem.W.keepIn K (.ref fof_int) = true)
    (a_of_symbol : PySem.W.nsIn K mainGlobals "of_symbol" = some (some (.ref fof_symbol)))
    (l_of_symbol : K.lookup fof_symbol = some ⟨ocof_symbol, odof_symbol, .func (PySem.W.fnOf "of_symbol" "of_symbol" (defArgs s_of_symbol) (defBody s_of_symbol) (defScope s_of_symbol) .none kVof_symbol dcof_symbol pmof_symbol anof_symbol cdof_symbol ctof_symbol), slof_symbol⟩)
    (c_of_symbol : PySem.W.codeIn K cdof_symbol "of_symbol" = true)
    (k_of_symbol : PySem.W.keepIn K (.ref fof_symbol) = true)
    (a_of_ref : PySem.W.nsIn K mainGlobals "of_ref" = some (some (.ref fof_ref)))
    (l_of_ref : K.lookup fof_ref = some ⟨ocof_ref, odof_ref, .func (PySem.W.fnOf "of_ref" "of_ref" (defArgs s_of_ref) (defBody s_of_ref) (defScope s_of_ref) .none kVof_ref dcof_ref pmof_ref anof_ref cdof_ref ctof_ref), slof_ref⟩)
    (c_of_ref : PySem.W.codeIn K cdof_ref "of_ref" = true)
    (k_of_ref : PySem.W.keepIn K (.ref fof_ref) = true)
    (a_is_int : PySem.W.nsIn K mainGlobals "is_int" = some (some (.ref fis_int)))
    (l_is_int : K.lookup fis_int = some ⟨ocis_int, odis_int, .func (PySem.W.fnOf "is_int" "is_int" (defArgs s_is_int) (defBody s_is_int) (defScope s_is_int) .none kVis_int dcis_int pmis_int anis_int cdis_int ctis_int), slis_int⟩)
    (c_is_int : PySem.W.codeIn K cdis_int "is_int" = true)
    (k_is_int : PySem.W.keepIn K (.ref fis_int) = true)
    (a_is_symbol : PySem.W.nsIn K mainGlobals "is_symbol" = some (some (.ref fis_symbol)))
    (l_is_symbol : K.lookup fis_symbol = some ⟨ocis_symbol, odis_symbol, .func (PySem.W.fnOf "is_symbol" "is_symbol" (defArgs s_is_symbol) (defBody s_is_symbol) (defScope s_is_symbol) .none kVis_symbol dcis_symbol pmis_symbol anis_symbol cdis_symbol ctis_symbol), slis_symbol⟩)
    (c_is_symbol : PySem.W.codeIn K cdis_symbol "is_symbol" = true)
    (k_is_symbol : PySem.W.keepIn K (.ref fis_symbol) = true)
    (a_is_ref : PySem.W.nsIn K mainGlobals "is_ref" = some (some (.ref fis_ref)))
    (l_is_ref : K.lookup fis_ref = some ⟨ocis_ref, odis_ref, .func (PySem.W.fnOf "is_ref" "is_ref" (defArgs s_is_ref) (defBody s_is_ref) (defScope s_is_ref) .none kVis_ref dcis_ref pmis_ref anis_ref cdis_ref ctis_ref), slis_ref⟩)
    (c_is_ref : PySem.W.codeIn K cdis_ref "is_ref" = true)
    (k_is_ref : PySem.W.keepIn K (.ref fis_ref) = true)
    (a_int_of : PySem.W.nsIn K mainGlobals "int_of" = some (some (.ref fint_of)))
    (l_int_of : K.lookup fint_of = some ⟨ocint_of, odint_of, .func (PySem.W.fnOf "int_of" "int_of" (defArgs s_int_of) (defBody s_int_of) (defScope s_int_of) .none kVint_of dcint_of pmint_of anint_of cdint_of ctint_of), slint_of⟩)
    (c_int_of : PySem.W.codeIn K cdint_of "int_of" = true)
    (k_int_of : PySem.W.keepIn K (.ref fint_of) = true)
    (a_symbol_of : PySem.W.nsIn K mainGlobals "symbol_of" = some (some (.ref fsymbol_of)))
    (l_symbol_of : K.lookup fsymbol_of = some ⟨ocsymbol_of, odsymbol_of, .func (PySem.W.fnOf "symbol_of" "symbol_of" (defArgs s_symbol_of) (defBody s_symbol_of) (defScope s_symbol_of) .none kVsymbol_of dcsymbol_of pmsymbol_of ansymbol_of cdsymbol_of ctsymbol_of), slsymbol_of⟩)
    (c_symbol_of : PySem.W.codeIn K cdsymbol_of "symbol_of" = true)
    (k_symbol_of : PySem.W.keepIn K (.ref fsymbol_of) = true)
    (a_ref_of : PySem.W.nsIn K mainGlobals "ref_of" = some (some (.ref fref_of)))
    (l_ref_of : K.lookup fref_of = some ⟨ocref_of, odref_of, .func (PySem.W.fnOf "ref_of" "ref_of" (defArgs s_ref_of) (defBody s_ref_of) (defScope s_ref_of) .none kVref_of dcref_of pmref_of anref_of cdref_of ctref_of), slref_of⟩)
    (c_ref_of : PySem.W.codeIn K cdref_of "ref_of" = true)
    (k_ref_of : PySem.W.keepIn K (.ref fref_of) = true)
    (a_is_word : PySem.W.nsIn K mainGlobals "is_word" = some (some (.ref fis_word)))
    (l_is_word : K.lookup fis_word = some ⟨ocis_word, odis_word, .func (PySem.W.fnOf "is_word" "is_word" (defArgs s_is_word) (defBody s_is_word) (defScope s_is_word) .none kVis_word dcis_word pmis_word anis_word cdis_word ctis_word), slis_word⟩)
    (c_is_word : PySem.W.codeIn K cdis_word "is_word" = true)
    (k_is_word : PySem.W.keepIn K (.ref fis_word) = true)
    (a__law_integer : PySem.W.nsIn K mainGlobals "_law_integer" = some (some (.ref f_law_integer)))
    (l__law_integer : K.lookup f_law_integer = some ⟨oc_law_integer, od_law_integer, .func (PySem.W.fnOf "_law_integer" "_law_integer" (defArgs s__law_integer) (defBody s__law_integer) (defScope s__law_integer) .none kV_law_integer dc_law_integer pm_law_integer an_law_integer cd_law_integer ct_law_integer), sl_law_integer⟩)
    (c__law_integer : PySem.W.codeIn K cd_law_integer "_law_integer" = true)
    (k__law_integer : PySem.W.keepIn K (.ref f_law_integer) = true)
    (a__law_is : PySem.W.nsIn K mainGlobals "_law_is" = some (some (.ref f_law_is)))
    (l__law_is : K.lookup f_law_is = some ⟨oc_law_is, od_law_is, .func (PySem.W.fnOf "_law_is" "_law_is" (defArgs s__law_is) (defBody s__law_is) (defScope s__law_is) .none kV_law_is dc_law_is pm_law_is an_law_is cd_law_is ct_law_is), sl_law_is⟩)
    (c__law_is : PySem.W.codeIn K cd_law_is "_law_is" = true)
    (k__law_is : PySem.W.keepIn K (.ref f_law_is) = true)
    (a__law_error : PySem.W.nsIn K mainGlobals "_law_error" = some (some (.ref f_law_error)))
    (l__law_error : K.lookup f_law_error = some ⟨oc_law_error, od_law_error, .func (PySem.W.fnOf "_law_error" "_law_error" (defArgs s__law_error) (defBody s__law_error) (defScope s__law_error) .none kV_law_error dc_law_error pm_law_error an_law_error cd_law_error ct_law_error), sl_law_error⟩)
    (c__law_error : PySem.W.codeIn K cd_law_error "_law_error" = true)
    (k__law_error : PySem.W.keepIn K (.ref f_law_error) = true)
    (a__law_made : PySem.W.nsIn K mainGlobals "_law_made" = some (some (.ref f_law_made)))
    (l__law_made : K.lookup f_law_made = some ⟨oc_law_made, od_law_made, .func (PySem.W.fnOf "_law_made" "_law_made" (defArgs s__law_made) (defBody s__law_made) (defScope s__law_made) .none kV_law_made dc_law_made pm_law_made an_law_made cd_law_made ct_law_made), sl_law_made⟩)
    (c__law_made : PySem.W.codeIn K cd_law_made "_law_made" = true)
    (k__law_made : PySem.W.keepIn K (.ref f_law_made) = true)
    (a__law_read : PySem.W.nsIn K mainGlobals "_law_read" = some (some (.ref f_law_read)))
    (l__law_read : K.lookup f_law_read = some ⟨oc_law_read, od_law_read, .func (PySem.W.fnOf "_law_read" "_law_read" (defArgs s__law_read) (defBody s__law_read) (defScope s__law_read) .none kV_law_read dc_law_read pm_law_read an_law_read cd_law_read ct_law_read), sl_law_read⟩)
    (c__law_read : PySem.W.codeIn K cd_law_read "_law_read" = true)
    (k__law_read : PySem.W.keepIn K (.ref f_law_read) = true)
    (a__law_is_word : PySem.W.nsIn K mainGlobals "_law_is_word" = some (some (.ref f_law_is_word)))
    (l__law_is_word : K.lookup f_law_is_word = some ⟨oc_law_is_word, od_law_is_word, .func (PySem.W.fnOf "_law_is_word" "_law_is_word" (defArgs s__law_is_word) (defBody s__law_is_word) (defScope s__law_is_word) .none kV_law_is_word dc_law_is_word pm_law_is_word an_law_is_word cd_law_is_word ct_law_is_word), sl_law_is_word⟩)
    (c__law_is_word : PySem.W.codeIn K cd_law_is_word "_law_is_word" = true)
    (k__law_is_word : PySem.W.keepIn K (.ref f_law_is_word) = true)
    (a_law : PySem.W.nsIn K mainGlobals "law" = some (some (.ref flaw)))
    (l_law : K.lookup flaw = some ⟨oclaw, odlaw, .func (PySem.W.fnOf "law" "law" (defArgs s_law) (defBody s_law) (defScope s_law) .none kVlaw dclaw pmlaw anlaw cdlaw ctlaw), sllaw⟩)
    (c_law : PySem.W.codeIn K cdlaw "law" = true)
    (k_law : PySem.W.keepIn K (.ref flaw) = true)
    (qkb_S : PySem.W.kitOne K (.ref C_BadWord) (.ref C_SaggarError) = some true)
    (qkb_V : PySem.W.kitOne K (.ref C_BadWord) (.type "ValueError") = some true)
    (qkb_N : PySem.W.kitOne K (.ref C_BadWord) (.ref C_NoRoom) = some false)
    (qem_B : PySem.W.exmOne K (.ref C_BadWord) (.ref C_BadWord) = some true) : Wd l.prog K mg :=
  { n_ValueError := PySem.W.mg_none_of X G z_ValueError,
    n_bool := PySem.W.mg_none_of X G z_bool,
    n_int := PySem.W.mg_none_of X G z_int,
    n_isinstance := PySem.W.mg_none_of X G z_isinstance,
    n_range := PySem.W.mg_none_of X G z_range,
    n_str := PySem.W.mg_none_of X G z_str,
    t_NIL := t_NIL, g_NIL := PySem.W.mg_of X G c_NIL,
    t_LEAST := t_LEAST, g_LEAST := PySem.W.mg_of X G c_LEAST,
    t_GREATEST := t_GREATEST, g_GREATEST := PySem.W.mg_of X G c_GREATEST,
    t_MOST := t_MOST, g_MOST := PySem.W.mg_of X G c_MOST,
    c_SaggarError := C_SaggarError, g_SaggarError := PySem.W.mg_of X G cl_SaggarError,
    c_BadWord := C_BadWord, g_BadWord := PySem.W.mg_of X G cl_BadWord,
    c_NoRoom := C_NoRoom, g_NoRoom := PySem.W.mg_of X G cl_NoRoom,
    X_BadWord := ⟨⟨_, _, _, _, _, _, _, _, _, _, _, _, _, _, _, xl_BadWord, xr_BadWord⟩, xs_BadWord, xe_BadWord, xt_BadWord, xk_BadWord⟩,
    i_BadWord := ⟨a_BadWord___init__, k_BadWord___init__⟩,
    cc_BadWord := ccBadWord___init__, cda_BadWord := cdaBadWord___init__,
    S_BadWord := { ox := ⟨⟨_, _, _, _, _, _, _, _, _, _, _, _, _, _, _, xl_BadWord, xr_BadWord⟩, xs_BadWord, xe_BadWord, xt_BadWord, xk_BadWord⟩, code := ⟨_, _, _, _, _, _, x1_BadWord___init__, x2_BadWord___init__, x3_BadWord___init__⟩, cell := ⟨_, _, _, x4_BadWord___init__⟩, cls := ⟨_, by unfold PySem.W.clsIn; rw [xl_BadWord] <;> rfl⟩, sub := xm_BadWord, init := xi_BadWord, isB := xb_BadWord, third := z_third, mgS := PySem.W.mg_none_of X G z_super, hks := by decide +kernel, hkc := by decide +kernel, htop := z_top },
    f_BadWord___init__ := fBadWord___init__, fd_BadWord___init__ := _, L_BadWord := ⟨_, _, _, _, _, _, _, _, l_BadWord___init__, rfl, c_BadWord___init__⟩,
    E_BadWord := ⟨⟨⟨_, _, _, _, _, _, _, _, _, _, _, _, _, _, _, xl_BadWord, xr_BadWord⟩, xs_BadWord, xe_BadWord, xt_BadWord, xk_BadWord⟩, eg_BadWord, ek_BadWord, ed_BadWord, ea_BadWord, z_sg, z_st, em_BadWord⟩,
    xn_BadWord_word := xn_BadWord_word,
    b_BadWord___init__ := .all fun us hl => match us, hl with | [_, _], _ => rfl,
    f_fits := ffits, fd_fits := _, F_fits := fun_mk (st := s_fits) l_fits c_fits k_fits,
    g_fits := PySem.W.mg_of X G a_fits,
    b_fits := (fun_mk (st := s_fits) l_fits c_fits k_fits).binds (ps := ["number"]) fun _ _ _ _ _ _ us hl => match us, hl with | [_], _ => rfl,
    f_of_int := fof_int, fd_of_int := _, F_of_int := fun_mk (st := s_of_int) l_of_int c_of_int k_of_int,
    g_of_int := PySem.W.mg_of X G a_of_int,
    b_of_int := (fun_mk (st := s_of_int) l_of_int c_of_int k_of_int).binds (ps := ["number"]) fun _ _ _ _ _ _ us hl => match us, hl with | [_], _ => rfl,
    f_of_symbol := fof_symbol, fd_of_symbol := _, F_of_symbol := fun_mk (st := s_of_symbol) l_of_symbol c_of_symbol k_of_symbol,
    g_of_symbol := PySem.W.mg_of X G a_of_symbol,
    b_of_symbol := (fun_mk (st := s_of_symbol) l_of_symbol c_of_symbol k_of_symbol).binds (ps := ["number"]) fun _ _ _ _ _ _ us hl => match us, hl with | [_], _ => rfl,
    f_of_ref := fof_ref, fd_of_ref := _, F_of_ref := fun_mk (st := s_of_ref) l_of_ref c_of_ref k_of_ref,
    g_of_ref := PySem.W.mg_of X G a_of_ref,
    b_of_ref := (fun_mk (st := s_of_ref) l_of_ref c_of_ref k_of_ref).binds (ps := ["number"]) fun _ _ _ _ _ _ us hl => match us, hl with | [_], _ => rfl,
    f_is_int := fis_int, fd_is_int := _, F_is_int := fun_mk (st := s_is_int) l_is_int c_is_int k_is_int,
    g_is_int := PySem.W.mg_of X G a_is_int,
    b_is_int := (fun_mk (st := s_is_int) l_is_int c_is_int k_is_int).binds (ps := ["word"]) fun _ _ _ _ _ _ us hl => match us, hl with | [_], _ => rfl,
    f_is_symbol := fis_symbol, fd_is_symbol := _, F_is_symbol := fun_mk (st := s_is_symbol) l_is_symbol c_is_symbol k_is_symbol,
    g_is_symbol := PySem.W.mg_of X G a_is_symbol,
    b_is_symbol := (fun_mk (st := s_is_symbol) l_is_symbol c_is_symbol k_is_symbol).binds (ps := ["word"]) fun _ _ _ _ _ _ us hl => match us, hl with | [_], _ => rfl,
    f_is_ref := fis_ref, fd_is_ref := _, F_is_ref := fun_mk (st := s_is_ref) l_is_ref c_is_ref k_is_ref,
    g_is_ref := PySem.W.mg_of X G a_is_ref,
    b_is_ref := (fun_mk (st := s_is_ref) l_is_ref c_is_ref k_is_ref).binds (ps := ["word"]) fun _ _ _ _ _ _ us hl => match us, hl with | [_], _ => rfl,
    f_int_of := fint_of, fd_int_of := _, F_int_of := fun_mk (st := s_int_of) l_int_of c_int_of k_int_of,
    g_int_of := PySem.W.mg_of X G a_int_of,
    b_int_of := (fun_mk (st := s_int_of) l_int_of c_int_of k_int_of).binds (ps := ["word"]) fun _ _ _ _ _ _ us hl => match us, hl with | [_], _ => rfl,
    f_symbol_of := fsymbol_of, fd_symbol_of := _, F_symbol_of := fun_mk (st := s_symbol_of) l_symbol_of c_symbol_of k_symbol_of,
    g_symbol_of := PySem.W.mg_of X G a_symbol_of,
    b_symbol_of := (fun_mk (st := s_symbol_of) l_symbol_of c_symbol_of k_symbol_of).binds (ps := ["word"]) fun _ _ _ _ _ _ us hl => match us, hl with | [_], _ => rfl,
    f_ref_of := fref_of, fd_ref_of := _, F_ref_of := fun_mk (st := s_ref_of) l_ref_of c_ref_of k_ref_of,
    g_ref_of := PySem.W.mg_of X G a_ref_of,
    b_ref_of := (fun_mk (st := s_ref_of) l_ref_of c_ref_of k_ref_of).binds (ps := ["word"]) fun _ _ _ _ _ _ us hl => match us, hl with | [_], _ => rfl,
    f_is_word := fis_word, fd_is_word := _, F_is_word := fun_mk (st := s_is_word) l_is_word c_is_word k_is_word,
    g_is_word := PySem.W.mg_of X G a_is_word,
    b_is_word := (fun_mk (st := s_is_word) l_is_word c_is_word k_is_word).binds (ps := ["word"]) fun _ _ _ _ _ _ us hl => match us, hl with | [_], _ => rfl,
    f__law_integer := f_law_integer, fd__law_integer := _, F__law_integer := fun_mk (st := s__law_integer) l__law_integer c__law_integer k__law_integer,
    g__law_integer := PySem.W.mg_of X G a__law_integer,
    b__law_integer := (fun_mk (st := s__law_integer) l__law_integer c__law_integer k__law_integer).binds (ps := ["_law_cell"]) fun _ _ _ _ _ _ us hl => match us, hl with | [_], _ => rfl,
    f__law_is := f_law_is, fd__law_is := _, F__law_is := fun_mk (st := s__law_is) l__law_is c__law_is k__law_is,
    g__law_is := PySem.W.mg_of X G a__law_is,
    b__law_is := (fun_mk (st := s__law_is) l__law_is c__law_is k__law_is).binds (ps := ["_law_actual", "_law_due"]) fun _ _ _ _ _ _ us hl => match us, hl with | [_, _], _ => rfl,
    f__law_error := f_law_error, fd__law_error := _, F__law_error := fun_mk (st := s__law_error) l__law_error c__law_error k__law_error,
    g__law_error := PySem.W.mg_of X G a__law_error,
    b__law_error := (fun_mk (st := s__law_error) l__law_error c__law_error k__law_error).binds (ps := ["_law_e", "_law_number"]) fun _ _ _ _ _ _ us hl => match us, hl with | [_, _], _ => rfl,
    f__law_made := f_law_made, fd__law_made := _, F__law_made := fun_mk (st := s__law_made) l__law_made c__law_made k__law_made,
    g__law_made := PySem.W.mg_of X G a__law_made,
    b__law_made := (fun_mk (st := s__law_made) l__law_made c__law_made k__law_made).binds (ps := ["_law_number"]) fun _ _ _ _ _ _ us hl => match us, hl with | [_], _ => rfl,
    f__law_read := f_law_read, fd__law_read := _, F__law_read := fun_mk (st := s__law_read) l__law_read c__law_read k__law_read,
    g__law_read := PySem.W.mg_of X G a__law_read,
    b__law_read := (fun_mk (st := s__law_read) l__law_read c__law_read k__law_read).binds (ps := ["_law_word"]) fun _ _ _ _ _ _ us hl => match us, hl with | [_], _ => rfl,
    f__law_is_word := f_law_is_word, fd__law_is_word := _, F__law_is_word := fun_mk (st := s__law_is_word) l__law_is_word c__law_is_word k__law_is_word,
    g__law_is_word := PySem.W.mg_of X G a__law_is_word,
    b__law_is_word := (fun_mk (st := s__law_is_word) l__law_is_word c__law_is_word k__law_is_word).binds (ps := ["_law_word"]) fun _ _ _ _ _ _ us hl => match us, hl with | [_], _ => rfl,
    f_law := flaw, fd_law := _, F_law := fun_mk (st := s_law) l_law c_law k_law,
    g_law := PySem.W.mg_of X G a_law,
    b_law := (fun_mk (st := s_law) l_law c_law k_law).binds (ps := ["_law_script"]) fun _ _ _ _ _ _ us hl => match us, hl with | [_], _ => rfl,
    kb_S := qkb_S,
    kb_V := qkb_V,
    kb_N := qkb_N,
    em_B := qem_B }
section
variable {P : Program} {w : World} {K : PySem.W.Frag} {mg : Str → Option Value} {base : Heap}
theorem ok_BadWord___init__ (W : Wd P K mg) : FnOk P w K mg base CX0 1 W.f_BadWord___init__ W.fd_BadWord___init__ ["self", "word"] (sp_exc1 W.c_BadWord "word") := by
  obtain ⟨oc, od, kV, dc, pm, an, ct, osl, lk, efd, hcd⟩ := W.L_BadWord
  rw [efd] at lk ⊢
  refine fn_sup lk hcd ns_BadWord___init__ W.S_BadWord rfl rfl (pl := fun env => plainOf _ env) (fun L => rfl) (fun env => rfl) (fun env => rfl) (fun L => rfl) (fun L => rfl) (fun vs H Q E h => ?_) (fun A outer s H vs Q E hr h => ?_)
  · obtain ⟨a, x, rfl, _⟩ := h
    rfl
  · obtain ⟨a, x, rfl, hx, ha, k⟩ := h
    refine ⟨_, _, (pa_cons (pe_callTy call_strU (by rfl) W.n_str bb_str (pa_cons (pv 1) pa_nil)) pa_nil), pss_one (ps_ost (pv 0) (pv 1)), ?_⟩
    refine ⟨a, rfl, ha, ?_⟩
    have fin : sizeLine ≥ 1 := (by show 1 ≤ sizeLine; decide)
    cases x with
    | int i => exact ⟨_, rfl, hx, fin, ha, _, rfl, _, rfl, a, _, rfl, W.X_BadWord, W.xn_BadWord_word, Or.inl ⟨ha, fun dx h1 h2 => k dx h1 h2⟩⟩
    | str z => exact ⟨_, rfl, fin, ha, _, rfl, _, rfl, a, _, rfl, W.X_BadWord, W.xn_BadWord_word, Or.inl ⟨ha, fun dx h1 h2 => k dx h1 h2⟩⟩
    | _ => exact hx.elim
end

end LX
namespace LX
open PySem PySem.Spec PyProof.Rows L2 NdefX
section
variable {P : Program} {w : World} {K : PySem.W.Frag} {mg : Str → Option Value} {base : Heap}
def sp_b (g : Int → Bool) : Sp := fun vs H Q _ => ∃ n : Int, vs = [.int n] ∧ Q (.bl (g n)) H
def fitsB (n : Int) : Bool := decide (-268435456 ≤ n ∧ n ≤ 268435455)
theorem ok_fits (W : Wd P K mg) : FnOk P w K mg base CX0 1 W.f_fits W.fd_fits ["number"] (sp_b fitsB) := by
  refine W.F_fits.ok sc_fits (fun vs H Q E h => ?_) (fun cdv A outer s H vs Q E hr h => ?_)
  · obtain ⟨n, rfl, _⟩ := h
    rfl
  · obtain ⟨n, rfl, k⟩ := h
    have hu1 := hu_of hr
    have hu64 := hu64_of hr
    refine ⟨_, (pss_one (ps_ret (pe_chain op_leU op_leU (pe_gi rfl W.g_LEAST) (pv 0) (pe_gi rfl W.g_GREATEST)))), ?_⟩
    refine ⟨_, rfl, _, rfl, ?_⟩
    refine iteD (fun h1 => ?_) (fun h1 => ?_)
    · show Q (.bl (decide (n ≤ 268435455))) H
      have h1 : (-268435456 : Int) ≤ n := h1
      have e : decide (n ≤ 268435455) = fitsB n := by unfold fitsB; simp [h1]
      rw [e]; exact k
    · have h1 : ¬ (-268435456 : Int) ≤ n := h1
      have e : false = fitsB n := by unfold fitsB; simp [h1]
      rw [e]; exact k
theorem ok_is_int (W : Wd P K mg) : FnOk P w K mg base CX0 1 W.f_is_int W.fd_is_int ["word"] (sp_b fun n => decide (n % 4 = 1)) := by
  refine W.F_is_int.ok sc_is_int (fun vs H Q E h => ?_) (fun cdv A outer s H vs Q E hr h => ?_)
  · obtain ⟨n, rfl, _⟩ := h
    rfl
  · obtain ⟨n, rfl, k⟩ := h
    have hu1 := hu_of hr
    have hu64 := hu64_of hr
    refine ⟨_, (pss_one (ps_ret (pe_cmpR (op_eqU hu64) (pe_op op_mod (pv 0) pe_int) pe_int (by first | exact nomark _ | rfl)))), ?_⟩
    refine ⟨_, rfl, _, _, rfl, rfl, (by show (0 : Int) < 4; decide), rfl, ?_⟩
    show Q (.bl (decide (V.int (n % 4) = V.int 1))) H
    rw [I_dec]
    exact k
theorem ok_is_symbol (W : Wd P K mg) : FnOk P w K mg base CX0 1 W.f_is_symbol W.fd_is_symbol ["word"] (sp_b fun n => decide (n % 4 = 3)) := by
  refine W.F_is_symbol.ok sc_is_symbol (fun vs H Q E h => ?_) (fun cdv A outer s H vs Q E hr h => ?_)
  · obtain ⟨n, rfl, _⟩ := h
    rfl
  · obtain ⟨n, rfl, k⟩ := h
    have hu1 := hu_of hr
    have hu64 := hu64_of hr
    refine ⟨_, (pss_one (ps_ret (pe_cmpR (op_eqU hu64) (pe_op op_mod (pv 0) pe_int) pe_int (by first | exact nomark _ | rfl)))), ?_⟩
    refine ⟨_, rfl, _, _, rfl, rfl, (by show (0 : Int) < 4; decide), rfl, ?_⟩
    show Q (.bl (decide (V.int (n % 4) = V.int 3))) H
    rw [I_dec]
    exact k
theorem ok_is_ref (W : Wd P K mg) : FnOk P w K mg base CX0 1 W.f_is_ref W.fd_is_ref ["word"] (sp_b fun n => decide (n % 2 = 0)) := by
  refine W.F_is_ref.ok sc_is_ref (fun vs H Q E h => ?_) (fun cdv A outer s H vs Q E hr h => ?_)
  · obtain ⟨n, rfl, _⟩ := h
    rfl
  · obtain ⟨n, rfl, k⟩ := h
    have hu1 := hu_of hr
    have hu64 := hu64_of hr
    refine ⟨_, (pss_one (ps_ret (pe_cmpR (op_eqU hu64) (pe_op op_mod (pv 0) pe_int) pe_int (by first | exact nomark _ | rfl)))), ?_⟩
    refine ⟨_, rfl, _, _, rfl, rfl, (by show (0 : Int) < 2; decide), rfl, ?_⟩
    show Q (.bl (decide (V.int (n % 2) = V.int 0))) H
    rw [I_dec]
    exact k
def isW (n : Int) : Bool := if n % 4 = 1 then fitsB (n / 4) else if n % 4 = 3 then decide (0 ≤ n / 4 ∧ n / 4 < 100000) else decide (0 ≤ n / 2 ∧ n / 2 < 100000)
theorem rng_go {x : Int} {Q : VK} {H : Hp} (k : Q (.bl (decide (0 ≤ x ∧ x < 100000))) H) : if decide (0 ≤ x) = true then Q (.bl (decide (x < 100000))) H else Q (.bl false) H := by
  refine iteD (fun h1 => ?_) (fun h1 => ?_)
  · have e : decide (x < 100000) = decide (0 ≤ x ∧ x < 100000) := by simp [h1]
    rw [e]; exact k
  · have e : false = decide (0 ≤ x ∧ x < 100000) := by simp [h1]
    rw [e]; exact k
theorem ok_is_word (W : Wd P K mg) : FnOk P w K mg base CX0 2 W.f_is_word W.fd_is_word ["word"] (sp_b isW) := by
  refine W.F_is_word.ok sc_is_word (fun vs H Q E h => ?_) (fun cdv A outer s H vs Q E hr h => ?_)
  · obtain ⟨n, rfl, _⟩ := h
    rfl
  · obtain ⟨n, rfl, k⟩ := h
    have hu1 := hu_of hr
    have hu64 := hu64_of hr
    refine ⟨_, (pss_cons (ps_if (pt_truth (pe_call (ok_is_int W) (hr.mono (by decide)) rfl W.g_is_int W.F_is_int.kp W.b_is_int .nil pass0 (pa_cons (pv 0) pa_nil)) (by intro _; rfl)) (pss_one (ps_ret (pe_call (ok_fits W) (hr.mono (by decide)) rfl W.g_fits W.F_fits.kp W.b_fits .nil pass0 (pa_cons (pe_op op_fdivW (pv 0) pe_int) pa_nil)))) pss_nil)
      (pss_cons (ps_if (pt_truth (pe_call (ok_is_symbol W) (hr.mono (by decide)) rfl W.g_is_symbol W.F_is_symbol.kp W.b_is_symbol .nil pass0 (pa_cons (pv 0) pa_nil)) (by intro _; rfl)) (pss_one (ps_ret (pe_chain op_leU op_ltU pe_int (pe_op op_fdivW (pv 0) pe_int) (pe_gi rfl W.g_MOST)))) pss_nil)
      (pss_one (ps_ret (pe_chain op_leU op_ltU pe_int (pe_op op_fdivW (pv 0) pe_int) (pe_gi rfl W.g_MOST)))))), ?_⟩
    unfold isW at k
    refine ⟨_, rfl, n, rfl, ?_⟩
    refine ⟨_, rfl, ?_⟩
    refine iteD (fun h1 => ?_) (fun h1 => ?_)
    · rw [if_pos h1] at k
      refine ⟨_, rfl, _, _, rfl, rfl, ⟨by decide, by decide⟩, ?_⟩
      exact ⟨_, rfl, k⟩
    · rw [if_neg h1] at k
      refine ⟨_, rfl, n, rfl, ?_⟩
      refine ⟨_, rfl, ?_⟩
      refine iteD (fun h2 => ?_) (fun h2 => ?_)
      · rw [if_pos h2] at k
        refine ⟨_, rfl, _, _, rfl, rfl, ⟨by decide, by decide⟩, ?_⟩
        exact ⟨_, rfl, rng_go k⟩
      · rw [if_neg h2] at k
        refine ⟨_, rfl, _, _, rfl, rfl, ⟨by decide, by decide⟩, ?_⟩
        exact ⟨_, rfl, rng_go k⟩
theorem ok__law_is_word (W : Wd P K mg) : FnOk P w K mg base CX0 1 W.f__law_is_word W.fd__law_is_word ["_law_word"] (sp_b isW) := by
  refine W.F__law_is_word.ok sc__law_is_word (fun vs H Q E h => ?_) (fun cdv A outer s H vs Q E hr h => ?_)
  · obtain ⟨n, rfl, _⟩ := h
    rfl
  · obtain ⟨n, rfl, k⟩ := h
    have hu1 := hu_of hr
    have hu64 := hu64_of hr
    refine ⟨_, (pss_cons (ps_set (i := 1) sc__law_is_word.nd rfl (by first | exact Or.inl rfl | exact Or.inr rfl) (pe_op op_mod (pe_callTy call_intU (by rfl) W.n_int bb_int (pa_cons (pv 0) pa_nil)) pe_int))
      (pss_cons (ps_if (pt_cmpR (op_eqU hu64) (pv 1) pe_int (by first | exact nomark _ | rfl)) (pss_one (ps_ret (pe_chain op_leU op_ltU (pe_un un_neg pe_int) (pe_op op_fdivW (pv 0) pe_int) pe_int))) pss_nil)
      (pss_cons (ps_if (pt_cmpR (op_eqU hu64) (pv 1) pe_int (by first | exact nomark _ | rfl)) (pss_one (ps_ret (pe_chain op_leU op_ltU pe_int (pe_op op_fdivW (pv 0) pe_int) pe_int))) pss_nil)
      (pss_one (ps_ret (pe_chain op_leU op_ltU pe_int (pe_op op_fdivW (pv 0) pe_int) pe_int)))))), ?_⟩
    unfold isW at k
    refine ⟨_, rfl, _, _, rfl, rfl, (by show (0 : Int) < 4; decide), ?_⟩
    refine ⟨_, rfl, rfl, _, rfl, ?_⟩
    refine ite_eq (I_dec _ _) (iteD (fun h1 => ?_) (fun h1 => ?_))
    · rw [if_pos h1] at k
      refine ⟨_, rfl, _, rfl, _, _, rfl, rfl, ⟨by decide, by decide⟩, ?_⟩
      refine ⟨_, rfl, ?_⟩
      refine iteD (fun h2 => ?_) (fun h2 => ?_)
      · have h2 : (-268435456 : Int) ≤ n / 4 := h2
        show Q (.bl (decide (n / 4 < 268435456))) H
        have e : decide (n / 4 < 268435456) = fitsB (n / 4) := by
          unfold fitsB
          by_cases q : n / 4 < 268435456
          · rw [decide_eq_true q, decide_eq_true (show _ ∧ _ from ⟨h2, by omega⟩)]
          · rw [decide_eq_false q, decide_eq_false (fun z => by omega)]
        rw [e]; exact k
      · have h2 : ¬ (-268435456 : Int) ≤ n / 4 := h2
        have e : false = fitsB (n / 4) := by unfold fitsB; rw [decide_eq_false (fun z => h2 z.1)]
        rw [e]; exact k
    · rw [if_neg h1] at k
      refine ⟨_, rfl, rfl, _, rfl, ?_⟩
      refine ite_eq (I_dec _ _) (iteD (fun h2 => ?_) (fun h2 => ?_))
      · rw [if_pos h2] at k
        refine ⟨_, rfl, _, _, rfl, rfl, ⟨by decide, by decide⟩, ?_⟩
        exact ⟨_, rfl, rng_go k⟩
      · rw [if_neg h2] at k
        refine ⟨_, rfl, _, _, rfl, rfl, ⟨by decide, by decide⟩, ?_⟩
        exact ⟨_, rfl, rng_go k⟩
def sp_conv (C : Addr) (ok : Int → Prop) (g : Int → Int) : Sp := fun vs H Q E => ∃ n : Int, vs = [.int n] ∧ StrOk (.int n) ∧ (ok n → Q (.int (g n)) H) ∧ (¬ ok n → ∀ d, H d = none → E (.ref C) (some d) (L2.upd H d (.xd [("word", .int n)])))
theorem ok_of_int (W : Wd P K mg) : FnOk P w K mg base (L2N.CX P w) 3 W.f_of_int W.fd_of_int ["number"] (sp_conv W.c_BadWord (fun n => -268435456 ≤ n ∧ n ≤ 268435455) (fun n => 4 * n + 1)) := by
  refine okN W.F_of_int sc_of_int (fun vs H Q E h => ?_) (fun cdv A outer s H vs Q E hr h => ?_)
  · obtain ⟨n, rfl, _⟩ := h
    rfl
  · obtain ⟨n, rfl, hs, k1, k2⟩ := h
    have hu1 := hu_of hr
    have hu64 := hu64_of hr
    refine ⟨_, (pss_cons (ps_if (pt_not (pt_truth (pe_call (ok_fits W) (hr.mono (by decide)) rfl W.g_fits W.F_fits.kp W.b_fits .nil pass0 (pa_cons (pv 0) pa_nil)) (by intro _; rfl))) (pss_one (L2N.ps_raise rfl (L2N.takes_of rfl rfl rfl rfl) (pmk_x W.X_BadWord W.i_BadWord (ok_BadWord___init__ W) (hr.mono (by decide)) W.b_BadWord___init__ pass0 rfl W.g_BadWord (pa_cons (pv 0) pa_nil)))) pss_nil)
      (pss_one (ps_ret (pe_op op_addU (pe_op op_mulU pe_int (pv 0)) pe_int)))), ?_⟩
    refine ⟨_, rfl, n, rfl, ?_⟩
    refine ⟨_, rfl, ?_⟩
    refine iteND (fun h1 => ?_) (fun h1 => ?_)
    · exact ⟨_, rfl, exc1_mk hs fun d hd => k2 h1 d hd⟩
    · exact ⟨_, rfl, Or.inl ⟨by decide, by decide⟩, k1 h1⟩
theorem ok_of_symbol (W : Wd P K mg) : FnOk P w K mg base (L2N.CX P w) 3 W.f_of_symbol W.fd_of_symbol ["number"] (sp_conv W.c_BadWord (fun n => 0 ≤ n ∧ n < 100000) (fun n => 4 * n + 3)) := by
  refine okN W.F_of_symbol sc_of_symbol (fun vs H Q E h => ?_) (fun cdv A outer s H vs Q E hr h => ?_)
  · obtain ⟨n, rfl, _⟩ := h
    rfl
  · obtain ⟨n, rfl, hs, k1, k2⟩ := h
    have hu1 := hu_of hr
    have hu64 := hu64_of hr
    refine ⟨_, (pss_cons (ps_if (pt_not (pt_chain op_leU op_ltU pe_int (pv 0) (pe_gi rfl W.g_MOST))) (pss_one (L2N.ps_raise rfl (L2N.takes_of rfl rfl rfl rfl) (pmk_x W.X_BadWord W.i_BadWord (ok_BadWord___init__ W) (hr.mono (by decide)) W.b_BadWord___init__ pass0 rfl W.g_BadWord (pa_cons (pv 0) pa_nil)))) pss_nil)
      (pss_one (ps_ret (pe_op op_addU (pe_op op_mulU pe_int (pv 0)) pe_int)))), ?_⟩
    refine ⟨_, rfl, _, rfl, ?_⟩
    refine iteD (fun h1 => ?_) (fun h1 => ?_)
    · refine ⟨_, rfl, ?_⟩
      refine iteND (fun h2 => ?_) (fun h2 => ?_)
      · exact ⟨_, rfl, exc1_mk hs fun d hd => k2 (fun z => h2 z.2) d hd⟩
      · exact ⟨_, rfl, Or.inl ⟨by decide, by decide⟩, k1 ⟨h1, h2⟩⟩
    · refine ⟨_, rfl, iteT ?_⟩
      exact ⟨_, rfl, exc1_mk hs fun d hd => k2 (fun z => h1 z.1) d hd⟩
theorem ok_of_ref (W : Wd P K mg) : FnOk P w K mg base (L2N.CX P w) 3 W.f_of_ref W.fd_of_ref ["number"] (sp_conv W.c_BadWord (fun n => 0 ≤ n ∧ n < 100000) (fun n => 2 * n)) := by
  refine okN W.F_of_ref sc_of_ref (fun vs H Q E h => ?_) (fun cdv A outer s H vs Q E hr h => ?_)
  · obtain ⟨n, rfl, _⟩ := h
    rfl
  · obtain ⟨n, rfl, hs, k1, k2⟩ := h
    have hu1 := hu_of hr
    have hu64 := hu64_of hr
    refine ⟨_, (pss_cons (ps_if (pt_not (pt_chain op_leU op_ltU pe_int (pv 0) (pe_gi rfl W.g_MOST))) (pss_one (L2N.ps_raise rfl (L2N.takes_of rfl rfl rfl rfl) (pmk_x W.X_BadWord W.i_BadWord (ok_BadWord___init__ W) (hr.mono (by decide)) W.b_BadWord___init__ pass0 rfl W.g_BadWord (pa_cons (pv 0) pa_nil)))) pss_nil)
      (pss_one (ps_ret (pe_op op_mulU pe_int (pv 0))))), ?_⟩
    refine ⟨_, rfl, _, rfl, ?_⟩
    refine iteD (fun h1 => ?_) (fun h1 => ?_)
    · refine ⟨_, rfl, ?_⟩
      refine iteND (fun h2 => ?_) (fun h2 => ?_)
      · exact ⟨_, rfl, exc1_mk hs fun d hd => k2 (fun z => h2 z.2) d hd⟩
      · exact ⟨_, rfl, Or.inl ⟨by decide, by decide⟩, k1 ⟨h1, h2⟩⟩
    · refine ⟨_, rfl, iteT ?_⟩
      exact ⟨_, rfl, exc1_mk hs fun d hd => k2 (fun z => h1 z.1) d hd⟩
theorem ok_int_of (W : Wd P K mg) : FnOk P w K mg base (L2N.CX P w) 3 W.f_int_of W.fd_int_of ["word"] (sp_conv W.c_BadWord (fun n => n % 4 = 1) (fun n => n / 4)) := by
  refine okN W.F_int_of sc_int_of (fun vs H Q E h => ?_) (fun cdv A outer s H vs Q E hr h => ?_)
  · obtain ⟨n, rfl, _⟩ := h
    rfl
  · obtain ⟨n, rfl, hs, k1, k2⟩ := h
    have hu1 := hu_of hr
    have hu64 := hu64_of hr
    refine ⟨_, (pss_cons (ps_if (pt_not (pt_truth (pe_call (ok_is_int W) (hr.mono (by decide)) rfl W.g_is_int W.F_is_int.kp W.b_is_int .nil pass0 (pa_cons (pv 0) pa_nil)) (by intro _; rfl))) (pss_one (L2N.ps_raise rfl (L2N.takes_of rfl rfl rfl rfl) (pmk_x W.X_BadWord W.i_BadWord (ok_BadWord___init__ W) (hr.mono (by decide)) W.b_BadWord___init__ pass0 rfl W.g_BadWord (pa_cons (pv 0) pa_nil)))) pss_nil)
      (pss_one (ps_ret (pe_op op_fdivW (pv 0) pe_int)))), ?_⟩
    refine ⟨_, rfl, n, rfl, ?_⟩
    refine ⟨_, rfl, ?_⟩
    refine iteND (fun h1 => ?_) (fun h1 => ?_)
    · exact ⟨_, rfl, exc1_mk hs fun d hd => k2 h1 d hd⟩
    · exact ⟨_, rfl, _, _, rfl, rfl, ⟨by decide, by decide⟩, k1 h1⟩
theorem ok_symbol_of (W : Wd P K mg) : FnOk P w K mg base (L2N.CX P w) 3 W.f_symbol_of W.fd_symbol_of ["word"] (sp_conv W.c_BadWord (fun n => n % 4 = 3) (fun n => n / 4)) := by
  refine okN W.F_symbol_of sc_symbol_of (fun vs H Q E h => ?_) (fun cdv A outer s H vs Q E hr h => ?_)
  · obtain ⟨n, rfl, _⟩ := h
    rfl
  · obtain ⟨n, rfl, hs, k1, k2⟩ := h
    have hu1 := hu_of hr
    have hu64 := hu64_of hr
    refine ⟨_, (pss_cons (ps_if (pt_not (pt_truth (pe_call (ok_is_symbol W) (hr.mono (by decide)) rfl W.g_is_symbol W.F_is_symbol.kp W.b_is_symbol .nil pass0 (pa_cons (pv 0) pa_nil)) (by intro _; rfl))) (pss_one (L2N.ps_raise rfl (L2N.takes_of rfl rfl rfl rfl) (pmk_x W.X_BadWord W.i_BadWord (ok_BadWord___init__ W) (hr.mono (by decide)) W.b_BadWord___init__ pass0 rfl W.g_BadWord (pa_cons (pv 0) pa_nil)))) pss_nil)
      (pss_one (ps_ret (pe_op op_fdivW (pv 0) pe_int)))), ?_⟩
    refine ⟨_, rfl, n, rfl, ?_⟩
    refine ⟨_, rfl, ?_⟩
    refine iteND (fun h1 => ?_) (fun h1 => ?_)
    · exact ⟨_, rfl, exc1_mk hs fun d hd => k2 h1 d hd⟩
    · exact ⟨_, rfl, _, _, rfl, rfl, ⟨by decide, by decide⟩, k1 h1⟩
theorem ok_ref_of (W : Wd P K mg) : FnOk P w K mg base (L2N.CX P w) 3 W.f_ref_of W.fd_ref_of ["word"] (sp_conv W.c_BadWord (fun n => n % 2 = 0) (fun n => n / 2)) := by
  refine okN W.F_ref_of sc_ref_of (fun vs H Q E h => ?_) (fun cdv A outer s H vs Q E hr h => ?_)
  · obtain ⟨n, rfl, _⟩ := h
    rfl
  · obtain ⟨n, rfl, hs, k1, k2⟩ := h
    have hu1 := hu_of hr
    have hu64 := hu64_of hr
    refine ⟨_, (pss_cons (ps_if (pt_not (pt_truth (pe_call (ok_is_ref W) (hr.mono (by decide)) rfl W.g_is_ref W.F_is_ref.kp W.b_is_ref .nil pass0 (pa_cons (pv 0) pa_nil)) (by intro _; rfl))) (pss_one (L2N.ps_raise rfl (L2N.takes_of rfl rfl rfl rfl) (pmk_x W.X_BadWord W.i_BadWord (ok_BadWord___init__ W) (hr.mono (by decide)) W.b_BadWord___init__ pass0 rfl W.g_BadWord (pa_cons (pv 0) pa_nil)))) pss_nil)
      (pss_one (ps_ret (pe_op op_fdivW (pv 0) pe_int)))), ?_⟩
    refine ⟨_, rfl, n, rfl, ?_⟩
    refine ⟨_, rfl, ?_⟩
    refine iteND (fun h1 => ?_) (fun h1 => ?_)
    · exact ⟨_, rfl, exc1_mk hs fun d hd => k2 h1 d hd⟩
    · exact ⟨_, rfl, _, _, rfl, rfl, ⟨by decide, by decide⟩, k1 h1⟩
def sp_isL : Sp := fun vs H Q _ => ((∃ a : Int, vs = [.int a, .int a]) ∨ ∃ b : Bool, vs = [.bl b, .bl b]) ∧ Q (.bl true) H
theorem ok__law_is (W : Wd P K mg) : FnOk P w K mg base CX0 1 W.f__law_is W.fd__law_is ["_law_actual", "_law_due"] sp_isL := by
  refine W.F__law_is.ok sc__law_is (fun vs H Q E h => ?_) (fun cdv A outer s H vs Q E hr h => ?_)
  · obtain ⟨⟨n, rfl⟩ | ⟨b, rfl⟩, _⟩ := h <;> rfl
  · obtain ⟨h, k⟩ := h
    have hu1 := hu_of hr
    have hu64 := hu64_of hr
    refine ⟨_, (pss_cons (ps_if (PW.pt (pw_or (pt_cmpR op_isU (pv 1) pe_bl (by first | exact nomark _ | rfl)) (pw_or1 (pt_cmpR op_isU (pv 1) pe_bl (by first | exact nomark _ | rfl))))) (pss_one (ps_ret (pe_and (pe_callB call_isi (by rfl) W.n_isinstance bb_isinstance (pa_cons (pv 0) (pa_cons (pe_bt rfl W.n_bool bb_bool) pa_nil))) (pe_one (pe_cmpR (op_eqU hu64) (pv 0) (pv 1) (by first | exact nomark _ | rfl)))))) pss_nil)
      (pss_one (ps_ret (pe_and (pe_callB call_isi (by rfl) W.n_isinstance bb_isinstance (pa_cons (pv 0) (pa_cons (pe_bt rfl W.n_int bb_int) pa_nil))) (pe_and (pe_notT (pe_callB call_isi (by rfl) W.n_isinstance bb_isinstance (pa_cons (pv 0) (pa_cons (pe_bt rfl W.n_bool bb_bool) pa_nil)))) (pe_one (pe_cmpR (op_eqU hu64) (pv 0) (pv 1) (by first | exact nomark _ | rfl)))))))), ?_⟩
    rcases h with ⟨n, rfl⟩ | ⟨b, rfl⟩
    · refine ⟨_, rfl, _, rfl, ?_⟩
      refine iteD (fun h => by cases h) (fun _ => ?_)
      refine ⟨_, rfl, _, rfl, ?_⟩
      refine iteD (fun h => by cases h) (fun _ => ?_)
      refine ⟨_, rfl, ?_⟩
      refine ⟨_, _, _, _, _, rfl, ClsV.ty _, TyX.base (TyOf.int _), kt_int_int, ?_⟩
      refine ⟨_, rfl, ?_⟩
      refine iteT ?_
      refine ⟨_, rfl, ?_⟩
      refine ⟨_, _, _, _, _, rfl, ClsV.ty _, TyX.base (TyOf.int _), kt_int_bool, ?_⟩
      refine ⟨_, rfl, _, rfl, iteT ?_⟩
      refine ⟨_, rfl, _, rfl, rfl, ?_⟩
      show Q (.bl (decide (V.int n = V.int n))) H
      rw [decide_eq_true rfl]
      exact k
    · have hk : ∃ x : Unit, True := ⟨(), trivial⟩
      refine ⟨_, rfl, _, rfl, ?_⟩
      have fin : ∀ (σ : L2.St), True := fun _ => trivial
      cases b with
      | true =>
        refine iteT ?_
        refine ⟨_, rfl, ?_⟩
        refine ⟨_, _, _, _, _, rfl, ClsV.ty _, TyX.base (TyOf.bl _), kt_bool_bool, ?_⟩
        refine ⟨_, rfl, ?_⟩
        refine iteT ?_
        refine ⟨_, rfl, _, rfl, rfl, ?_⟩
        exact k
      | false =>
        refine iteF ?_
        refine ⟨_, rfl, _, rfl, ?_⟩
        refine iteT ?_
        refine ⟨_, rfl, ?_⟩
        refine ⟨_, _, _, _, _, rfl, ClsV.ty _, TyX.base (TyOf.bl _), kt_bool_bool, ?_⟩
        refine ⟨_, rfl, ?_⟩
        refine iteT ?_
        refine ⟨_, rfl, _, rfl, rfl, ?_⟩
        exact k
theorem okH__law_is (W : Wd P K mg) : FnHP P w K mg base CX0 1 W.f__law_is W.fd__law_is ["_law_actual", "_law_due"] (fun _ _ _ vs H Q _ => ∃ a : Int, vs = [.int a, .int a] ∧ Q (.bl true) H) := by
  refine okHP W.F__law_is sc__law_is (fun a0 cls0 d0 vs H Q E h => ?_) (fun cdv A outer s H vs Q E p cls d0 hot Z hr h => ?_)
  · obtain ⟨n, rfl, _⟩ := h
    rfl
  · obtain ⟨n, rfl, k⟩ := h
    have hu1 := hu1H_of hr
    have hu64 := huH_of hr
    refine ⟨_, (pss_cons (ps_if (PW.pt (pw_or (pt_cmpR op_isU (pv 1) pe_bl (by first | exact nomark _ | rfl)) (pw_or1 (pt_cmpR op_isU (pv 1) pe_bl (by first | exact nomark _ | rfl))))) (pss_one (ps_ret (pe_and (pe_callB call_isi (by rfl) W.n_isinstance bb_isinstance (pa_cons (pv 0) (pa_cons (pe_bt rfl W.n_bool bb_bool) pa_nil))) (pe_one (pe_cmpR (op_eqU hu64) (pv 0) (pv 1) (by first | exact nomark _ | rfl)))))) pss_nil)
      (pss_one (ps_ret (pe_and (pe_callB call_isi (by rfl) W.n_isinstance bb_isinstance (pa_cons (pv 0) (pa_cons (pe_bt rfl W.n_int bb_int) pa_nil))) (pe_and (pe_notT (pe_callB call_isi (by rfl) W.n_isinstance bb_isinstance (pa_cons (pv 0) (pa_cons (pe_bt rfl W.n_bool bb_bool) pa_nil)))) (pe_one (pe_cmpR (op_eqU hu64) (pv 0) (pv 1) (by first | exact nomark _ | rfl)))))))), ?_⟩
    refine ⟨_, rfl, _, rfl, ?_⟩
    refine iteD (fun h => by cases h) (fun _ => ?_)
    refine ⟨_, rfl, _, rfl, ?_⟩
    refine iteD (fun h => by cases h) (fun _ => ?_)
    refine ⟨_, rfl, ?_⟩
    refine ⟨_, _, _, _, _, rfl, ClsV.ty _, TyX.base (TyOf.int _), kt_int_int, ?_⟩
    refine ⟨_, rfl, ?_⟩
    refine iteT ?_
    refine ⟨_, rfl, ?_⟩
    refine ⟨_, _, _, _, _, rfl, ClsV.ty _, TyX.base (TyOf.int _), kt_int_bool, ?_⟩
    refine ⟨_, rfl, _, rfl, iteT ?_⟩
    refine ⟨_, rfl, _, rfl, rfl, ?_⟩
    show Q (.bl (decide (V.int n = V.int n))) H
    rw [decide_eq_true rfl]
    exact k
def sp_err (C : Addr) : SpP := fun a cls d0 vs H Q _ => ∃ (d : Addr) (n : Int), vs = [.ref a, .int n] ∧ cls = .ref C ∧ d0 = some d ∧ H d = some (.xd [("word", .int n)]) ∧ Q (.bl true) H
theorem okH__law_error (W : Wd P K mg) : FnHP P w K mg base CX0 2 W.f__law_error W.fd__law_error ["_law_e", "_law_number"] (sp_err W.c_BadWord) := by
  refine okHP W.F__law_error sc__law_error (fun a0 cls0 d0 vs H Q E h => ?_) (fun cdv A outer s H vs Q E p cls d0 hot Z hr h => ?_)
  · obtain ⟨d, n, rfl, _⟩ := h
    rfl
  · obtain ⟨a, oe⟩ := p
    obtain ⟨d, n, rfl, rfl, rfl, hd, k⟩ := h
    have hu1 := hu1H_of hr
    have hu64 := huH_of hr
    have Z : PinE (.ref W.c_BadWord) (some d) oe := Z
    have hot : L2H.Hot1 A (a, oe) := hot
    refine ⟨_, (pss_one (ps_ret (pe_and (pe_callHP (E := fun _ => E0) (okH__law_is W) (hr.mono (by decide)) hot Z (List.mem_singleton.mpr rfl) rfl W.g__law_is W.F__law_is.kp W.b__law_is pass0At (pa_cons (pe_xfP (List.mem_singleton.mpr rfl) Z (pv 0)) (pa_cons (pv 1) pa_nil))) (pe_and (pe_callB (call_isP (List.mem_singleton.mpr rfl) Z) (by rfl) W.n_isinstance bb_isinstance (pa_cons (pv 0) (pa_cons (pe_gr rfl W.g_SaggarError) pa_nil))) (pe_and (pe_callB (call_isP (List.mem_singleton.mpr rfl) Z) (by rfl) W.n_isinstance bb_isinstance (pa_cons (pv 0) (pa_cons (pe_bt rfl W.n_ValueError bb_ValueError) pa_nil))) (pe_one (pe_notT (pe_callB (call_isP (List.mem_singleton.mpr rfl) Z) (by rfl) W.n_isinstance bb_isinstance (pa_cons (pv 0) (pa_cons (pe_gr rfl W.g_NoRoom) pa_nil)))))))))), ?_⟩
    refine ⟨_, rfl, rfl, _, d, _, _, rfl, W.E_BadWord, W.xn_BadWord_word, rfl, hd, rfl, ?_⟩
    refine ⟨_, rfl, ?_⟩
    refine ⟨n, rfl, ?_⟩
    refine ⟨_, rfl, iteT ?_⟩
    refine ⟨_, rfl, ?_⟩
    refine ⟨_, _, _, _, rfl, W.E_BadWord, rfl, ClsV.own _, W.kb_S, (fun dd e => by cases e; exact ⟨_, hd⟩), ?_⟩
    refine ⟨_, rfl, iteT ?_⟩
    refine ⟨_, rfl, ?_⟩
    refine ⟨_, _, _, _, rfl, W.E_BadWord, rfl, ClsV.ty _, W.kb_V, (fun dd e => by cases e; exact ⟨_, hd⟩), ?_⟩
    refine ⟨_, rfl, iteT ?_⟩
    refine ⟨_, rfl, ?_⟩
    refine ⟨_, _, _, _, rfl, W.E_BadWord, rfl, ClsV.own _, W.kb_N, (fun dd e => by cases e; exact ⟨_, hd⟩), ?_⟩
    refine ⟨_, rfl, ?_⟩
    exact k
end

end LX
namespace LX
open PySem PySem.Spec PyProof.Rows L2 NdefX
theorem int_at {ws : List Int} {i : Nat} {z : Int} (h : ws[i]? = some z) : (ws.map V.int)[i]? = some (V.int z) := by rw [List.getElem?_map, h]; rfl
theorem ixN_nat {n i : Nat} (h : i < n) : ixN n (i : Int) = some i := by
  unfold ixN
  rw [if_pos (by omega), if_pos (by omega)]
  simp
/-- every old thing outside of F is kept -/
def Fr (F : List Addr) (H H' : Hp) : Prop := ∀ b o, H b = some o → b ∉ F → H' b = some o
theorem Fr.rfl' {F : List Addr} {H : Hp} : Fr F H H := fun _ _ e _ => e
theorem Fr.trans {F : List Addr} {H H1 H2 : Hp} (a : Fr F H H1) (b : Fr F H1 H2) : Fr F H H2 := fun c o e n => b c o (a c o e n) n
theorem Fr.new {F : List Addr} {H : Hp} {q : Addr} {o : HO} (hq : H q = none) : Fr F H (upd H q o) := fun c u e _ => by rw [upd_ne (ne_of_none e hq)]; exact e
theorem Fr.at {F : List Addr} {H : Hp} {q : Addr} {o : HO} (hq : q ∈ F) : Fr F H (upd H q o) := fun c u e n => by rw [upd_ne (fun z => n (by rw [z]; exact hq))]; exact e
theorem Fr.mono {F G : List Addr} {H H' : Hp} (a : Fr F H H') (h : ∀ b, b ∈ F → b ∈ G) : Fr G H H' := fun c o e n => a c o e fun m => n (h c m)
def IsI (H : Hp) (a : Addr) (ns : List Int) : Prop := H a = some (.lst (ns.map V.int))
theorem Fr.skip {F : List Addr} {H H' : Hp} {q : Addr} {o : HO} (f : Fr F H H') (hq : H q = none) : Fr F H (upd H' q o) := fun b u e n => by rw [upd_ne (ne_of_none e hq)]; exact f b u e n
theorem pickL {L : List Int} (y : Int) (h : L ≠ []) : ∃ n ∈ L, atI (L.map V.int) (y % (L.length : Int)) = some (.int n) := by
  have hp : 0 < L.length := List.length_pos_iff.mpr h
  have e1 := Int.emod_nonneg y (by omega : ((L.length : Int)) ≠ 0)
  have e2 := Int.emod_lt_of_pos y (by omega : (0 : Int) < (L.length : Int))
  generalize y % (L.length : Int) = d at e1 e2
  obtain ⟨k, rfl⟩ : ∃ k : Nat, d = (k : Int) := ⟨d.toNat, by omega⟩
  have hi : k < L.length := by omega
  exact ⟨L[k], List.getElem_mem hi, atI_nat (int_at (List.getElem?_eq_getElem hi))⟩
section
variable {P : Program} {w : World} {K : PySem.W.Frag} {mg : Str → Option Value} {base : Heap}
def sp_integer : Sp := fun vs H Q _ => ∃ c : Int, vs = [.int c] ∧ ∀ (n : Int) (H' : Hp), n.natAbs ≤ 2 * 10 ^ 30 → Fr [] H H' → Q (.int n) H'
theorem ok__law_integer (W : Wd P K mg) : FnOk P w K mg base CX0 1 W.f__law_integer W.fd__law_integer ["_law_cell"] sp_integer := by
  refine W.F__law_integer.ok sc__law_integer (fun vs H Q E h => ?_) (fun cdv A outer s H vs Q E hr h => ?_)
  · obtain ⟨n, rfl, _⟩ := h
    rfl
  · obtain ⟨c, rfl, k⟩ := h
    have hu1 := hu_of hr
    have hu64 := hu64_of hr
    refine ⟨_, (pss_cons (ps_set (i := 1) sc__law_integer.nd rfl (by first | exact Or.inl rfl | exact Or.inr rfl) (pe_lst (pa_cons pe_int (pa_cons pe_int (pa_cons pe_int (pa_cons pe_int (pa_cons pe_int (pa_cons pe_int (pa_cons (pe_op op_pow pe_int pe_int) (pa_cons (pe_op op_pow pe_int pe_int) pa_nil))))))))))
      (pss_cons (ps_set (i := 2) sc__law_integer.nd rfl (by first | exact Or.inl rfl | exact Or.inr rfl) (pe_ix (ix_U hu1) (pv 1) (pe_op op_mod (pe_callTy call_intU (by rfl) W.n_int bb_int (pa_cons (pv 0) pa_nil)) pe_int) (fun _ _ => rfl)))
      (Evl.pss_cut (ps_if (pt_cmpR (op_eqU hu64) (pe_op op_mod (pe_op op_fdivW (pv 0) pe_int) pe_int) pe_int (by first | exact nomark _ | rfl)) (pss_one (ps_set (i := 2) sc__law_integer.nd rfl (by first | exact Or.inl rfl | exact Or.inr rfl) (pe_un un_neg (pv 2)))) pss_nil)
      (pss_cons (ps_if (pt_cmpR (op_eqU hu64) (pe_op op_mod (pe_op op_fdivW (pv 0) pe_int) pe_int) pe_int (by first | exact nomark _ | rfl)) (pss_one (ps_ret (pe_op op_sub (pe_op op_mod (pe_op op_fdivW (pv 0) pe_int) pe_int) pe_int))) pss_nil)
      (pss_one (ps_ret (pe_op op_sub (pe_op op_addU (pv 2) (pe_op op_mod (pe_op op_fdivW (pv 0) pe_int) pe_int)) pe_int))))))), ?_⟩
    refine ⟨_, _, rfl, rfl, ⟨by decide, by decide, by decide⟩, _, _, rfl, rfl, ⟨by decide, by decide, by decide⟩, ?_⟩
    refine ⟨(by show 8 ≤ sizeLine; decide), fun l hl => ?_⟩
    have eL : [V.int 0, .int 268435456, .int 1073741824, .int 100000, .int 200000, .int 400000, .int (10 ^ (Int.toNat 9)), .int (10 ^ (Int.toNat 30))] = [(0 : Int), 268435456, 1073741824, 100000, 200000, 400000, 10 ^ (Int.toNat 9), 10 ^ (Int.toNat 30)].map V.int := rfl
    rw [eL]
    have f1 : Fr [] H (L2.upd H l (.lst ([(0 : Int), 268435456, 1073741824, 100000, 200000, 400000, 10 ^ (Int.toNat 9), 10 ^ (Int.toNat 30)].map V.int))) := Fr.new hl
    have hl1 : L2.upd H l (.lst ([(0 : Int), 268435456, 1073741824, 100000, 200000, 400000, 10 ^ (Int.toNat 9), 10 ^ (Int.toNat 30)].map V.int)) l = some (.lst ([(0 : Int), 268435456, 1073741824, 100000, 200000, 400000, 10 ^ (Int.toNat 9), 10 ^ (Int.toNat 30)].map V.int)) := upd_same
    have hb : ∀ b ∈ [(0 : Int), 268435456, 1073741824, 100000, 200000, 400000, 10 ^ (Int.toNat 9), 10 ^ (Int.toNat 30)], b.natAbs ≤ 10 ^ 30 := by decide
    generalize L2.upd H l (.lst ([(0 : Int), 268435456, 1073741824, 100000, 200000, 400000, 10 ^ (Int.toNat 9), 10 ^ (Int.toNat 30)].map V.int)) = H1 at f1 hl1
    obtain ⟨b, hbm, hat⟩ := pickL (L := [(0 : Int), 268435456, 1073741824, 100000, 200000, 400000, 10 ^ (Int.toNat 9), 10 ^ (Int.toNat 30)]) c (by simp)
    have hb := hb b hbm
    refine ⟨_, rfl, _, rfl, _, _, rfl, rfl, (by show (0 : Int) < 8; decide), ?_⟩
    refine Or.inl ⟨_, _, _, rfl, Or.inl (SqL.of hl1), hat, ?_⟩
    refine ⟨fun σ H' => ∃ b : Int, b.natAbs ≤ 10 ^ 30 ∧ σ = [some (.int c), some (.ref l), some (.int b)] ∧ H' = H1, ?_, ?_⟩
    · refine ⟨_, rfl, _, _, rfl, rfl, ⟨by decide, by decide⟩, _, _, rfl, rfl, (by show (0 : Int) < 2; decide), rfl, _, rfl, ?_⟩
      refine iteD (fun _ => ?_) (fun _ => ?_)
      · refine ⟨_, rfl, _, rfl, ?_⟩
        exact ⟨-b, by omega, rfl, rfl⟩
      · exact ⟨b, hb, rfl, rfl⟩
    · rintro σ H2 ⟨b, hb, rfl, rfl⟩
      refine ⟨_, rfl, _, _, rfl, rfl, ⟨by decide, by decide⟩, _, _, rfl, rfl, (by show (0 : Int) < 3; decide), rfl, _, rfl, ?_⟩
      refine iteD (fun _ => ?_) (fun _ => ?_)
      · refine ⟨_, rfl, _, _, rfl, rfl, ⟨by decide, by decide⟩, _, _, rfl, rfl, (by show (0 : Int) < 17179869184; decide), ?_⟩
        refine ⟨_, _, rfl, rfl, k _ _ ?_ f1⟩
        have e1 := Int.emod_nonneg (c / 48) (by decide : (17179869184 : Int) ≠ 0)
        have e2 := Int.emod_lt_of_pos (c / 48) (by decide : (0 : Int) < 17179869184)
        have : (c / 48 % 17179869184 - 8589934592).natAbs ≤ 17179869184 := by omega
        exact Nat.le_trans this (by decide)
      · refine ⟨_, rfl, _, rfl, _, _, rfl, rfl, ⟨by decide, by decide⟩, _, _, rfl, rfl, (by show (0 : Int) < 41; decide), ?_⟩
        refine ⟨_, _, rfl, rfl, k _ _ ?_ f1⟩
        have e1 := Int.emod_nonneg (c / 48) (by decide : (41 : Int) ≠ 0)
        have e2 := Int.emod_lt_of_pos (c / 48) (by decide : (0 : Int) < 41)
        omega
theorem strOk_of {n : Int} (h : n.natAbs ≤ 2 * 10 ^ 30) : StrOk (.int n) := by
  show n.natAbs.log2 < 1920
  by_cases z : n.natAbs = 0
  · rw [z]; decide
  · refine (Nat.log2_lt z).mpr (Nat.lt_of_le_of_lt h (Nat.lt_of_lt_of_le (by decide : 2 * 10 ^ 30 < 2 ^ 102) (Nat.pow_le_pow_right (by decide) (by decide))))
def dM (n : Int) (k : Nat) : V := if k = 0 then (if -268435456 ≤ n ∧ n ≤ 268435455 then .int (4 * n + 1) else .non) else if k = 1 then (if 0 ≤ n ∧ n < 100000 then .int (4 * n + 3) else .non) else (if 0 ≤ n ∧ n < 100000 then .int (2 * n) else .non)
def dR (n : Int) (k : Nat) : V := if k = 0 then (if n % 4 = 1 then .int (n / 4) else .non) else if k = 1 then (if n % 4 = 3 then .int (n / 4) else .non) else (if n % 2 = 0 then .int (n / 2) else .non)
def tells (f : Nat → V) (i : Nat) : List V := (List.range i).map f
theorem tells_succ (f : Nat → V) (i : Nat) : tells f (i + 1) = tells f i ++ [f i] := by unfold tells; rw [List.range_succ, List.map_append]; rfl
theorem tells_at {f : Nat → V} {n i : Nat} (h : i < n) : (tells f n)[i]? = some (f i) := by unfold tells; rw [List.getElem?_map, List.getElem?_range h]; rfl
theorem tells_len (f : Nat → V) (n : Nat) : (tells f n).length = n := by unfold tells; rw [List.length_map, List.length_range]
def IntOrNon : V → Prop
  | .int _ => True
  | .non => True
  | _ => False
theorem dM_ok (n : Int) (k : Nat) : IntOrNon (dM n k) := by unfold dM; repeat' split
                                                            all_goals trivial
theorem dR_ok (n : Int) (k : Nat) : IntOrNon (dR n k) := by unfold dR; repeat' split
                                                            all_goals trivial
def sp_made : Sp := fun vs H Q _ => ∃ n : Int, vs = [.int n] ∧ StrOk (.int n) ∧ ∀ H', Fr [] H H' → Q (.bl true) H'
theorem ok__law_made (W : Wd P K mg) : FnOk P w K mg base CX0 4 W.f__law_made W.fd__law_made ["_law_number"] sp_made := by
  refine W.F__law_made.ok sc__law_made (fun vs H Q E h => ?_) (fun cdv A outer s H vs Q E hr h => ?_)
  · obtain ⟨n, rfl, _⟩ := h
    rfl
  · obtain ⟨n, rfl, hs, k⟩ := h
    have hu1 := hu_of hr
    have hu64 := hu64_of hr
    refine ⟨_, (pss_cons (ps_set (i := 1) sc__law_made.nd rfl (by first | exact Or.inl rfl | exact Or.inr rfl) (pe_lst pa_nil))
      (pss_cons (ps_set (i := 2) sc__law_made.nd rfl (by first | exact Or.inl rfl | exact Or.inr rfl) (pe_lst pa_nil))
      (Evl.pss_cut (ps_for PassesOwn.never rfl (pi_range1 (by rfl) W.n_range (pa_cons pe_int pa_nil)) (pg_name (i := 3) sc__law_made.nd rfl (by first | exact Or.inl rfl | exact Or.inr rfl)) (pss_one (ps_tryAs (K := K) (i := 4) rfl rfl rfl sc__law_made.nd rfl rfl ⟨rfl, by decide, .inl W.g_BadWord⟩ takes0N (fun _ pn xe tk _ => (pss_one (ps_if (pt_cmpR (op_eqUK (K := K) rfl (by exact hu64)) (pv 3) pe_int (by first | exact nomark _ | rfl)) (pss_one (ps_expr (pe_bmK (K := K) rfl PySem.F.plainAttrs_list PySem.F.slot_list_append PySem.F.type_list_append mt_append (pv 2) (pa_cons (pe_callS (ok_of_int W) (hr.mono (by decide)) rfl W.g_of_int W.F_of_int.kp W.b_of_int (fun σ => L2N.passAt tk σ) (pa_cons (pv 0) pa_nil)) pa_nil)))) (pss_one (ps_if (pt_cmpR (op_eqUK (K := K) rfl (by exact hu64)) (pv 3) pe_int (by first | exact nomark _ | rfl)) (pss_one (ps_expr (pe_bmK (K := K) rfl PySem.F.plainAttrs_list PySem.F.slot_list_append PySem.F.type_list_append mt_append (pv 2) (pa_cons (pe_callS (ok_of_symbol W) (hr.mono (by decide)) rfl W.g_of_symbol W.F_of_symbol.kp W.b_of_symbol (fun σ => L2N.passAt tk σ) (pa_cons (pv 0) pa_nil)) pa_nil)))) (pss_one (ps_expr (pe_bmK (K := K) rfl PySem.F.plainAttrs_list PySem.F.slot_list_append PySem.F.type_list_append mt_append (pv 2) (pa_cons (pe_callS (ok_of_ref W) (hr.mono (by decide)) rfl W.g_of_ref W.F_of_ref.kp W.b_of_ref (fun σ => L2N.passAt tk σ) (pa_cons (pv 0) pa_nil)) pa_nil))))))))) (fun a oe cls d pn hz hf => (pss_cons (ps_if (pt_not (pt_truthK (K := K) rfl (pe_callHP (E := fun _ => E0) (okH__law_error W) ((roomS hr).mono (by decide)) (suite_hot (show PinE cls d oe from ⟨hz, hf⟩)) (show PinE cls d oe from ⟨hz, hf⟩) List.mem_cons_self rfl W.g__law_error W.F__law_error.kp W.b__law_error pass0At (pa_cons (pv 4) (pa_cons (pv 0) pa_nil))) (by intro _; rfl))) (pss_one (ps_ret pe_bl)) pss_nil)
      (pss_one (ps_expr (pe_bmK (K := K) rfl PySem.F.plainAttrs_list PySem.F.slot_list_append PySem.F.type_list_append mt_append (pv 2) (pa_cons pe_non pa_nil)))))))))
      (Evl.pss_cut (ps_expr (pe_bm PySem.F.plainAttrs_list PySem.F.slot_list_append PySem.F.type_list_append mt_append (pv 1) (pa_cons (pe_ifExp (pt_chain op_leU op_ltU (pe_un un_neg pe_int) (pv 0) pe_int) (pe_op op_addU (pe_op op_mulU pe_int (pv 0)) pe_int) pe_non) pa_nil)))
      (Evl.pss_cut (ps_expr (pe_bm PySem.F.plainAttrs_list PySem.F.slot_list_append PySem.F.type_list_append mt_append (pv 1) (pa_cons (pe_ifExp (pt_chain op_leU op_ltU pe_int (pv 0) pe_int) (pe_op op_addU (pe_op op_mulU pe_int (pv 0)) pe_int) pe_non) pa_nil)))
      (Evl.pss_cut (ps_expr (pe_bm PySem.F.plainAttrs_list PySem.F.slot_list_append PySem.F.type_list_append mt_append (pv 1) (pa_cons (pe_ifExp (pt_chain op_leU op_ltU pe_int (pv 0) pe_int) (pe_op op_mulU pe_int (pv 0)) pe_non) pa_nil)))
      (Evl.pss_cut (ps_for PassesOwn.never rfl (pi_range1 (by rfl) W.n_range (pa_cons pe_int pa_nil)) (pg_name (i := 3) sc__law_made.nd rfl (by first | exact Or.inl rfl | exact Or.inr rfl)) (pss_one (ps_if (PW.pt (pw_or (PW.pt (pw_and (pt_cmpR op_isU (pe_ix (ix_U hu1) (pv 1) (pv 3) (fun _ _ => rfl)) pe_non (by first | exact nomark _ | rfl)) (pw_and1 (pt_cmpR op_isnotU (pe_ix (ix_U hu1) (pv 2) (pv 3) (fun _ _ => rfl)) pe_non (by first | exact nomark _ | rfl))))) (pw_or1 (PW.pt (pw_and (pt_cmpR op_isnotU (pe_ix (ix_U hu1) (pv 1) (pv 3) (fun _ _ => rfl)) pe_non (by first | exact nomark _ | rfl)) (pw_and1 (pt_not (pt_truth (pe_call (ok__law_is W) (hr.mono (by decide)) rfl W.g__law_is W.F__law_is.kp W.b__law_is .nil pass0 (pa_cons (pe_ix (ix_U hu1) (pv 2) (pv 3) (fun _ _ => rfl)) (pa_cons (pe_ix (ix_U hu1) (pv 1) (pv 3) (fun _ _ => rfl)) pa_nil))) (by intro _; rfl))))))))) (pss_one (ps_ret pe_bl)) pss_nil)))
      (pss_one (ps_ret pe_bl))))))))), ?_⟩
    refine ⟨(by show 0 ≤ sizeLine; decide), fun du hdu => ?_⟩
    have f1 : Fr [] H (L2.upd H du (.lst [])) := Fr.new hdu
    have d1 : L2.upd H du (.lst []) du = some (.lst []) := upd_same
    generalize L2.upd H du (.lst []) = H1 at f1 d1
    refine ⟨(by show 0 ≤ sizeLine; decide), fun to hto => ?_⟩
    have f2 : Fr [] H1 (L2.upd H1 to (.lst [])) := Fr.new hto
    have t2 : L2.upd H1 to (.lst []) to = some (.lst (tells (dM n) 0)) := upd_same
    have d2 := f2 _ _ d1 (by simp)
    have ndt : du ≠ to := ne_of_none d1 hto
    have hto0 : H to = none := by
      cases e : H to with
      | none => rfl
      | some o => rw [f1 _ _ e (by simp)] at hto; cases hto
    have f2 := f1.trans f2
    generalize L2.upd H1 to (.lst []) = H2 at f2 t2 d2
    refine ⟨fun σ H' => ∃ v3 v4 : Option V, σ = [some (.int n), some (.ref du), some (.ref to), v3, v4] ∧ H' to = some (.lst (tells (dM n) 3)) ∧ H' du = some (.lst []) ∧ Fr [] H H', ?_, ?_⟩
    · refine ⟨3, rfl, by decide, by decide, for_range (lo := 0) (n := 3) (fun i σ H' => ∃ v3 v4 : Option V, σ = [some (.int n), some (.ref du), some (.ref to), v3, v4] ∧ H' to = some (.lst (tells (dM n) i)) ∧ H' du = some (.lst []) ∧ Fr [] H H')
        ⟨none, none, rfl, t2, d2, f2⟩ (fun i σ H3 hi hI => ?_) (fun σ H3 hI => hI)⟩
      obtain ⟨v3, v4, rfl, t3, d3, f3⟩ := hI
      have good : ∀ (v : V) (v4 : Option V), v = dM n i → ∃ v3' v4' : Option V, [some (.int n), some (.ref du), some (.ref to), some (.int (0 + (i : Int))), v4] = [some (V.int n), some (.ref du), some (.ref to), v3', v4'] ∧ L2.upd H3 to (.lst (tells (dM n) i ++ [v])) to = some (.lst (tells (dM n) (i + 1))) ∧ L2.upd H3 to (.lst (tells (dM n) i ++ [v])) du = some (.lst []) ∧ Fr [] H (L2.upd H3 to (.lst (tells (dM n) i ++ [v]))) := fun v v4 e => by
        refine ⟨_, _, rfl, ?_, ?_, f3.skip hto0⟩
        · rw [upd_same, e, tells_succ]
        · rw [upd_ne ndt]; exact d3
      have sz : (tells (dM n) i).length < sizeLine := by rw [tells_len, sizeLine_eq]; omega
      refine ⟨_, rfl, rfl, _, rfl, ?_⟩
      refine ite_eq (I_dec _ _) (iteD (fun h0 => ?_) (fun h0 => ?_))
      · have h0 : i = 0 := by omega
        refine ⟨_, rfl, Or.inl ⟨rfl, _, SqL.of t3⟩, ?_⟩
        refine ⟨_, rfl, ?_⟩
        refine ⟨n, rfl, hs, fun ok => ?_, fun nok d hd => ?_⟩
        · refine ⟨to, _, _, rfl, rfl, t3, sz, good _ _ ?_⟩
          show _ = dM n i
          unfold dM
          rw [if_pos h0, if_pos ok]
        · refine ⟨true, W.em_B, fun _ a ha => ?_, fun z => nomatch z⟩
          have t4 : L2.upd H3 d (.xd [("word", V.int n)]) to = some (.lst (tells (dM n) i)) := by rw [upd_ne (ne_of_none t3 hd)]; exact t3
          refine ⟨_, rfl, _, rfl, ?_⟩
          refine ⟨d, n, rfl, rfl, rfl, upd_same, ?_⟩
          refine ⟨_, rfl, iteF ?_⟩
          refine ⟨_, rfl, Or.inl ⟨rfl, _, SqL.of t4⟩, ?_⟩
          refine ⟨to, _, _, rfl, rfl, t4, sz, _, _, rfl, ?_, ?_, ?_⟩
          · rw [upd_same, tells_succ]
            have e : dM n i = .non := by
              unfold dM
              rw [if_pos h0, if_neg nok]
            rw [e]
          · rw [upd_ne ndt, upd_ne (ne_of_none d3 hd)]; exact d3
          · exact (f3.trans (Fr.new hd)).skip hto0
      · have h0 : ¬ i = 0 := by omega
        refine ⟨_, rfl, rfl, _, rfl, ?_⟩
        refine ite_eq (I_dec _ _) (iteD (fun h1 => ?_) (fun h1 => ?_))
        · have h1 : i = 1 := by omega
          refine ⟨_, rfl, Or.inl ⟨rfl, _, SqL.of t3⟩, ?_⟩
          refine ⟨_, rfl, ?_⟩
          refine ⟨n, rfl, hs, fun ok => ?_, fun nok d hd => ?_⟩
          · refine ⟨to, _, _, rfl, rfl, t3, sz, good _ _ ?_⟩
            show _ = dM n i
            unfold dM
            rw [if_neg h0, if_pos h1, if_pos ok]
          · refine ⟨true, W.em_B, fun _ a ha => ?_, fun z => nomatch z⟩
            have t4 : L2.upd H3 d (.xd [("word", V.int n)]) to = some (.lst (tells (dM n) i)) := by rw [upd_ne (ne_of_none t3 hd)]; exact t3
            refine ⟨_, rfl, _, rfl, ?_⟩
            refine ⟨d, n, rfl, rfl, rfl, upd_same, ?_⟩
            refine ⟨_, rfl, iteF ?_⟩
            refine ⟨_, rfl, Or.inl ⟨rfl, _, SqL.of t4⟩, ?_⟩
            refine ⟨to, _, _, rfl, rfl, t4, sz, _, _, rfl, ?_, ?_, ?_⟩
            · rw [upd_same, tells_succ]
              have e : dM n i = .non := by
                unfold dM
                rw [if_neg h0, if_pos h1, if_neg nok]
              rw [e]
            · rw [upd_ne ndt, upd_ne (ne_of_none d3 hd)]; exact d3
            · exact (f3.trans (Fr.new hd)).skip hto0
        · have h1 : ¬ i = 1 := by omega
          refine ⟨_, rfl, Or.inl ⟨rfl, _, SqL.of t3⟩, ?_⟩
          refine ⟨_, rfl, ?_⟩
          refine ⟨n, rfl, hs, fun ok => ?_, fun nok d hd => ?_⟩
          · refine ⟨to, _, _, rfl, rfl, t3, sz, good _ _ ?_⟩
            show _ = dM n i
            unfold dM
            rw [if_neg h0, if_neg h1, if_pos ok]
          · refine ⟨true, W.em_B, fun _ a ha => ?_, fun z => nomatch z⟩
            have t4 : L2.upd H3 d (.xd [("word", V.int n)]) to = some (.lst (tells (dM n) i)) := by rw [upd_ne (ne_of_none t3 hd)]; exact t3
            refine ⟨_, rfl, _, rfl, ?_⟩
            refine ⟨d, n, rfl, rfl, rfl, upd_same, ?_⟩
            refine ⟨_, rfl, iteF ?_⟩
            refine ⟨_, rfl, Or.inl ⟨rfl, _, SqL.of t4⟩, ?_⟩
            refine ⟨to, _, _, rfl, rfl, t4, sz, _, _, rfl, ?_, ?_, ?_⟩
            · rw [upd_same, tells_succ]
              have e : dM n i = .non := by
                unfold dM
                rw [if_neg h0, if_neg h1, if_neg nok]
              rw [e]
            · rw [upd_ne ndt, upd_ne (ne_of_none d3 hd)]; exact d3
            · exact (f3.trans (Fr.new hd)).skip hto0
    rintro σ H3 ⟨v3, v4, rfl, t3, d3, f3⟩
    have hdu0 : H du = none := hdu
    have dn : ∀ (i : Nat) (H' : Hp), H' du = some (.lst (tells (dM n) i)) → Fr [] H H' → H' to = some (.lst (tells (dM n) 3)) → L2.upd H' du (.lst (tells (dM n) i ++ [dM n i])) du = some (.lst (tells (dM n) (i + 1))) ∧ Fr [] H (L2.upd H' du (.lst (tells (dM n) i ++ [dM n i]))) ∧ L2.upd H' du (.lst (tells (dM n) i ++ [dM n i])) to = some (.lst (tells (dM n) 3)) := fun i H' h1 h2 h3 =>
      ⟨by rw [upd_same, tells_succ], h2.skip hdu, by rw [upd_ne ndt.symm]; exact h3⟩
    refine ⟨fun σ H' => ∃ v3 v4 : Option V, σ = [some (.int n), some (.ref du), some (.ref to), v3, v4] ∧ H' to = some (.lst (tells (dM n) 3)) ∧ H' du = some (.lst (tells (dM n) 1)) ∧ Fr [] H H', ?_, ?_⟩
    · refine ⟨_, rfl, Or.inl ⟨rfl, _, SqL.of d3⟩, ?_⟩
      have sz : (tells (dM n) 0).length < sizeLine := by rw [tells_len, sizeLine_eq]; omega
      obtain ⟨q1, q2, q3⟩ := dn 0 H3 d3 f3 t3
      have yes : -268435456 ≤ n ∧ n ≤ 268435455 → dM n 0 = .int (4 * n + 1) := fun h => by unfold dM; rw [if_pos rfl, if_pos h]
      have no : ¬ (-268435456 ≤ n ∧ n ≤ 268435455) → dM n 0 = .non := fun h => by unfold dM; rw [if_pos rfl, if_neg h]
      refine ⟨_, rfl, _, rfl, _, rfl, ?_⟩
      refine iteD (fun h1 => ?_) (fun h1 => ?_)
      · have h1 : (-268435456 : Int) ≤ n := h1
        refine ⟨_, rfl, ?_⟩
        refine iteD (fun h2 => ?_) (fun h2 => ?_)
        · have h2 : n < (268435456 : Int) := h2
          rw [yes (by omega)] at q1 q2 q3
          refine ⟨_, rfl, Or.inl ⟨by decide, by decide⟩, ?_⟩
          exact ⟨du, _, _, rfl, rfl, d3, sz, _, _, rfl, q3, q1, q2⟩
        · have h2 : ¬ n < (268435456 : Int) := h2
          rw [no (by omega)] at q1 q2 q3
          exact ⟨du, _, _, rfl, rfl, d3, sz, _, _, rfl, q3, q1, q2⟩
      · have h1 : ¬ (-268435456 : Int) ≤ n := h1
        refine ⟨_, rfl, iteF ?_⟩
        rw [no (by omega)] at q1 q2 q3
        exact ⟨du, _, _, rfl, rfl, d3, sz, _, _, rfl, q3, q1, q2⟩
    clear d3 f3 t3 H3
    rintro σ H3 ⟨v3, v4, rfl, t3, d3, f3⟩
    refine ⟨fun σ H' => ∃ v3 v4 : Option V, σ = [some (.int n), some (.ref du), some (.ref to), v3, v4] ∧ H' to = some (.lst (tells (dM n) 3)) ∧ H' du = some (.lst (tells (dM n) 2)) ∧ Fr [] H H', ?_, ?_⟩
    · refine ⟨_, rfl, Or.inl ⟨rfl, _, SqL.of d3⟩, ?_⟩
      have sz : (tells (dM n) 1).length < sizeLine := by rw [tells_len, sizeLine_eq]; omega
      obtain ⟨q1, q2, q3⟩ := dn 1 H3 d3 f3 t3
      have yes : 0 ≤ n ∧ n < 100000 → dM n 1 = .int (4 * n + 3) := fun h => by unfold dM; rw [if_neg (by decide), if_pos rfl, if_pos h]
      have no : ¬ (0 ≤ n ∧ n < 100000) → dM n 1 = .non := fun h => by unfold dM; rw [if_neg (by decide), if_pos rfl, if_neg h]
      refine ⟨_, rfl, _, rfl, ?_⟩
      refine iteD (fun h1 => ?_) (fun h1 => ?_)
      · have h1 : (0 : Int) ≤ n := h1
        refine ⟨_, rfl, ?_⟩
        refine iteD (fun h2 => ?_) (fun h2 => ?_)
        · have h2 : n < (100000 : Int) := h2
          rw [yes (by omega)] at q1 q2 q3
          refine ⟨_, rfl, Or.inl ⟨by decide, by decide⟩, ?_⟩
          exact ⟨du, _, _, rfl, rfl, d3, sz, _, _, rfl, q3, q1, q2⟩
        · have h2 : ¬ n < (100000 : Int) := h2
          rw [no (by omega)] at q1 q2 q3
          exact ⟨du, _, _, rfl, rfl, d3, sz, _, _, rfl, q3, q1, q2⟩
      · have h1 : ¬ (0 : Int) ≤ n := h1
        refine ⟨_, rfl, iteF ?_⟩
        rw [no (by omega)] at q1 q2 q3
        exact ⟨du, _, _, rfl, rfl, d3, sz, _, _, rfl, q3, q1, q2⟩
    clear d3 f3 t3 H3
    rintro σ H3 ⟨v3, v4, rfl, t3, d3, f3⟩
    refine ⟨fun σ H' => ∃ v3 v4 : Option V, σ = [some (.int n), some (.ref du), some (.ref to), v3, v4] ∧ H' to = some (.lst (tells (dM n) 3)) ∧ H' du = some (.lst (tells (dM n) 3)) ∧ Fr [] H H', ?_, ?_⟩
    · refine ⟨_, rfl, Or.inl ⟨rfl, _, SqL.of d3⟩, ?_⟩
      have sz : (tells (dM n) 2).length < sizeLine := by rw [tells_len, sizeLine_eq]; omega
      obtain ⟨q1, q2, q3⟩ := dn 2 H3 d3 f3 t3
      have yes : 0 ≤ n ∧ n < 100000 → dM n 2 = .int (2 * n) := fun h => by unfold dM; rw [if_neg (by decide), if_neg (by decide), if_pos h]
      have no : ¬ (0 ≤ n ∧ n < 100000) → dM n 2 = .non := fun h => by unfold dM; rw [if_neg (by decide), if_neg (by decide), if_neg h]
      refine ⟨_, rfl, _, rfl, ?_⟩
      refine iteD (fun h1 => ?_) (fun h1 => ?_)
      · have h1 : (0 : Int) ≤ n := h1
        refine ⟨_, rfl, ?_⟩
        refine iteD (fun h2 => ?_) (fun h2 => ?_)
        · have h2 : n < (100000 : Int) := h2
          rw [yes (by omega)] at q1 q2 q3
          refine ⟨_, rfl, Or.inl ⟨by decide, by decide⟩, ?_⟩
          exact ⟨du, _, _, rfl, rfl, d3, sz, _, _, rfl, q3, q1, q2⟩
        · have h2 : ¬ n < (100000 : Int) := h2
          rw [no (by omega)] at q1 q2 q3
          exact ⟨du, _, _, rfl, rfl, d3, sz, _, _, rfl, q3, q1, q2⟩
      · have h1 : ¬ (0 : Int) ≤ n := h1
        refine ⟨_, rfl, iteF ?_⟩
        rw [no (by omega)] at q1 q2 q3
        exact ⟨du, _, _, rfl, rfl, d3, sz, _, _, rfl, q3, q1, q2⟩
    clear d3 f3 t3 H3
    rintro σ H3 ⟨v3, v4, rfl, t3, d3, f3⟩
    -- due is told
    refine ⟨fun σ H' => Fr [] H H', ?_, fun σ H' f => k _ f⟩
    refine ⟨3, rfl, by decide, by decide, for_range (lo := 0) (n := 3) (fun i σ H' => (∃ v3 : Option V, σ = [some (.int n), some (.ref du), some (.ref to), v3, v4]) ∧ H' = H3) ⟨⟨_, rfl⟩, rfl⟩ (fun i σ H' hi hI => ?_) (fun σ H' hI => by rw [hI.2]; exact f3)⟩
    obtain ⟨⟨v3, rfl⟩, rfl⟩ := hI
    have aD := tells_at (f := dM n) hi
    have ok := dM_ok n i
    generalize dM n i = v at aD ok
    refine ⟨_, rfl, _, rfl, Or.inl ⟨_, _, _, rfl, Or.inl (SqL.of d3), by rw [Int.zero_add]; exact atI_nat aD, ?_⟩⟩
    refine ⟨_, rfl, ?_⟩
    refine iteD (fun hv => ?_) (fun hv => ?_)
    · refine ⟨_, rfl, _, rfl, Or.inl ⟨_, _, _, rfl, Or.inl (SqL.of t3), by rw [Int.zero_add]; exact atI_nat aD, ?_⟩⟩
      refine ⟨_, rfl, ?_⟩
      refine iteND (fun h => absurd hv h) (fun _ => ?_)
      refine ⟨_, rfl, _, rfl, Or.inl ⟨_, _, _, rfl, Or.inl (SqL.of d3), by rw [Int.zero_add]; exact atI_nat aD, ?_⟩⟩
      refine ⟨_, rfl, ?_⟩
      refine iteND (fun h => absurd hv h) (fun _ => ?_)
      exact ⟨⟨_, rfl⟩, rfl⟩
    · obtain ⟨z, rfl⟩ : ∃ z, v = .int z := by
        cases v with
        | int z => exact ⟨z, rfl⟩
        | non => exact absurd rfl hv
        | _ => exact ok.elim
      refine ⟨_, rfl, _, rfl, Or.inl ⟨_, _, _, rfl, Or.inl (SqL.of d3), by rw [Int.zero_add]; exact atI_nat aD, ?_⟩⟩
      refine ⟨_, rfl, ?_⟩
      refine iteND (fun h => ?_) (fun h => absurd h hv)
      refine ⟨_, rfl, _, rfl, Or.inl ⟨_, _, _, rfl, Or.inl (SqL.of t3), by rw [Int.zero_add]; exact atI_nat aD, ?_⟩⟩
      refine ⟨_, rfl, _, rfl, Or.inl ⟨_, _, _, rfl, Or.inl (SqL.of d3), by rw [Int.zero_add]; exact atI_nat aD, ?_⟩⟩
      refine ⟨Or.inl ⟨z, rfl⟩, ?_⟩
      refine ⟨_, rfl, iteF ?_⟩
      exact ⟨⟨_, rfl⟩, rfl⟩
theorem dR_tells (n : Int) : tells (dR n) 3 = [dR n 0, dR n 1, dR n 2] := rfl
theorem ok__law_read (W : Wd P K mg) : FnOk P w K mg base CX0 4 W.f__law_read W.fd__law_read ["_law_word"] sp_made := by
  refine W.F__law_read.ok sc__law_read (fun vs H Q E h => ?_) (fun cdv A outer s H vs Q E hr h => ?_)
  · obtain ⟨n, rfl, _⟩ := h
    rfl
  · obtain ⟨n, rfl, hs, k⟩ := h
    have hu1 := hu_of hr
    have hu64 := hu64_of hr
    refine ⟨_, (pss_cons (ps_set (i := 1) sc__law_read.nd rfl (by first | exact Or.inl rfl | exact Or.inr rfl) (pe_op op_mod (pe_callTy call_intU (by rfl) W.n_int bb_int (pa_cons (pv 0) pa_nil)) pe_int))
      (pss_cons (ps_set (i := 2) sc__law_read.nd rfl (by first | exact Or.inl rfl | exact Or.inr rfl) (pe_lst (pa_cons pe_non (pa_cons pe_non (pa_cons pe_non pa_nil)))))
      (Evl.pss_cut (ps_if (pt_cmpR (op_eqU hu64) (pv 1) pe_int (by first | exact nomark _ | rfl)) (pss_one (ps_asg (pe_op op_fdivW (pv 0) pe_int) (pg_sub (pv 2) pe_int set_list))) (pss_one (ps_if (pt_cmpR (op_eqU hu64) (pv 1) pe_int (by first | exact nomark _ | rfl)) (pss_one (ps_asg (pe_op op_fdivW (pv 0) pe_int) (pg_sub (pv 2) pe_int set_list))) (pss_one (ps_asg (pe_op op_fdivW (pv 0) pe_int) (pg_sub (pv 2) pe_int set_list))))))
      (pss_cons (ps_set (i := 3) sc__law_read.nd rfl (by first | exact Or.inl rfl | exact Or.inr rfl) (pe_lst pa_nil))
      (Evl.pss_cut (ps_for PassesOwn.never rfl (pi_range1 (by rfl) W.n_range (pa_cons pe_int pa_nil)) (pg_name (i := 4) sc__law_read.nd rfl (by first | exact Or.inl rfl | exact Or.inr rfl)) (pss_one (ps_tryAs (K := K) (i := 5) rfl rfl rfl sc__law_read.nd rfl rfl ⟨rfl, by decide, .inl W.g_BadWord⟩ takes0N (fun _ pn xe tk _ => (pss_one (ps_if (pt_cmpR (op_eqUK (K := K) rfl (by exact hu64)) (pv 4) pe_int (by first | exact nomark _ | rfl)) (pss_one (ps_expr (pe_bmK (K := K) rfl PySem.F.plainAttrs_list PySem.F.slot_list_append PySem.F.type_list_append mt_append (pv 3) (pa_cons (pe_callS (ok_int_of W) (hr.mono (by decide)) rfl W.g_int_of W.F_int_of.kp W.b_int_of (fun σ => L2N.passAt tk σ) (pa_cons (pv 0) pa_nil)) pa_nil)))) (pss_one (ps_if (pt_cmpR (op_eqUK (K := K) rfl (by exact hu64)) (pv 4) pe_int (by first | exact nomark _ | rfl)) (pss_one (ps_expr (pe_bmK (K := K) rfl PySem.F.plainAttrs_list PySem.F.slot_list_append PySem.F.type_list_append mt_append (pv 3) (pa_cons (pe_callS (ok_symbol_of W) (hr.mono (by decide)) rfl W.g_symbol_of W.F_symbol_of.kp W.b_symbol_of (fun σ => L2N.passAt tk σ) (pa_cons (pv 0) pa_nil)) pa_nil)))) (pss_one (ps_expr (pe_bmK (K := K) rfl PySem.F.plainAttrs_list PySem.F.slot_list_append PySem.F.type_list_append mt_append (pv 3) (pa_cons (pe_callS (ok_ref_of W) (hr.mono (by decide)) rfl W.g_ref_of W.F_ref_of.kp W.b_ref_of (fun σ => L2N.passAt tk σ) (pa_cons (pv 0) pa_nil)) pa_nil))))))))) (fun a oe cls d pn hz hf => (pss_cons (ps_if (pt_not (pt_truthK (K := K) rfl (pe_callHP (E := fun _ => E0) (okH__law_error W) ((roomS hr).mono (by decide)) (suite_hot (show PinE cls d oe from ⟨hz, hf⟩)) (show PinE cls d oe from ⟨hz, hf⟩) List.mem_cons_self rfl W.g__law_error W.F__law_error.kp W.b__law_error pass0At (pa_cons (pv 5) (pa_cons (pv 0) pa_nil))) (by intro _; rfl))) (pss_one (ps_ret pe_bl)) pss_nil)
      (pss_one (ps_expr (pe_bmK (K := K) rfl PySem.F.plainAttrs_list PySem.F.slot_list_append PySem.F.type_list_append mt_append (pv 3) (pa_cons pe_non pa_nil)))))))))
      (Evl.pss_cut (ps_for PassesOwn.never rfl (pi_range1 (by rfl) W.n_range (pa_cons pe_int pa_nil)) (pg_name (i := 4) sc__law_read.nd rfl (by first | exact Or.inl rfl | exact Or.inr rfl)) (pss_one (ps_if (PW.pt (pw_or (PW.pt (pw_and (pt_cmpR op_isU (pe_ix (ix_U hu1) (pv 2) (pv 4) (fun _ _ => rfl)) pe_non (by first | exact nomark _ | rfl)) (pw_and1 (pt_cmpR op_isnotU (pe_ix (ix_U hu1) (pv 3) (pv 4) (fun _ _ => rfl)) pe_non (by first | exact nomark _ | rfl))))) (pw_or1 (PW.pt (pw_and (pt_cmpR op_isnotU (pe_ix (ix_U hu1) (pv 2) (pv 4) (fun _ _ => rfl)) pe_non (by first | exact nomark _ | rfl)) (pw_and1 (pt_not (pt_truth (pe_call (ok__law_is W) (hr.mono (by decide)) rfl W.g__law_is W.F__law_is.kp W.b__law_is .nil pass0 (pa_cons (pe_ix (ix_U hu1) (pv 3) (pv 4) (fun _ _ => rfl)) (pa_cons (pe_ix (ix_U hu1) (pv 2) (pv 4) (fun _ _ => rfl)) pa_nil))) (by intro _; rfl))))))))) (pss_one (ps_ret pe_bl)) pss_nil)))
      (pss_one (ps_ret (pe_and (pe_call (ok__law_is W) (hr.mono (by decide)) rfl W.g__law_is W.F__law_is.kp W.b__law_is .nil pass0 (pa_cons (pe_call (ok_is_int W) (hr.mono (by decide)) rfl W.g_is_int W.F_is_int.kp W.b_is_int .nil pass0 (pa_cons (pv 0) pa_nil)) (pa_cons (pe_cmpR (op_eqU hu64) (pv 1) pe_int (by first | exact nomark _ | rfl)) pa_nil))) (pe_and (pe_call (ok__law_is W) (hr.mono (by decide)) rfl W.g__law_is W.F__law_is.kp W.b__law_is .nil pass0 (pa_cons (pe_call (ok_is_symbol W) (hr.mono (by decide)) rfl W.g_is_symbol W.F_is_symbol.kp W.b_is_symbol .nil pass0 (pa_cons (pv 0) pa_nil)) (pa_cons (pe_cmpR (op_eqU hu64) (pv 1) pe_int (by first | exact nomark _ | rfl)) pa_nil))) (pe_one (pe_call (ok__law_is W) (hr.mono (by decide)) rfl W.g__law_is W.F__law_is.kp W.b__law_is .nil pass0 (pa_cons (pe_call (ok_is_ref W) (hr.mono (by decide)) rfl W.g_is_ref W.F_is_ref.kp W.b_is_ref .nil pass0 (pa_cons (pv 0) pa_nil)) (pa_cons (pe_cmpR (op_eqU hu64) (pe_op op_mod (pe_callTy call_intU (by rfl) W.n_int bb_int (pa_cons (pv 1) pa_nil)) pe_int) pe_int (by first | exact nomark _ | rfl)) pa_nil)))))))))))))), ?_⟩
    refine ⟨_, rfl, _, _, rfl, rfl, (by show (0 : Int) < 4; decide), ?_⟩
    refine ⟨(by show 3 ≤ sizeLine; decide), fun du hdu => ?_⟩
    have f1 : Fr [] H (L2.upd H du (.lst [.non, .non, .non])) := Fr.new hdu
    have d1 : L2.upd H du (.lst [.non, .non, .non]) du = some (.lst [.non, .non, .non]) := upd_same
    generalize L2.upd H du (.lst [.non, .non, .non]) = H1 at f1 d1
    -- due
    refine ⟨fun σ H' => σ = [some (.int n), some (.int (n % 4)), some (.ref du), none, none, none] ∧ H' du = some (.lst (tells (dR n) 3)) ∧ Fr [] H H', ?_, ?_⟩
    · have r0 := Int.emod_nonneg n (by decide : (4 : Int) ≠ 0)
      have r1 := Int.emod_lt_of_pos n (by decide : (0 : Int) < 4)
      refine ⟨_, rfl, rfl, _, rfl, ?_⟩
      refine ite_eq (I_dec _ _) (iteD (fun h1 => ?_) (fun h1 => ?_))
      · refine ⟨_, rfl, _, _, rfl, rfl, ⟨by decide, by decide⟩, ?_⟩
        refine ⟨_, rfl, du, _, _, 0, rfl, rfl, d1, rfl, rfl, ?_, f1.skip hdu⟩
        rw [upd_same, dR_tells]
        unfold dR
        rw [if_pos rfl, if_pos h1, if_neg (by decide), if_pos rfl, if_neg (by omega), if_neg (by decide), if_neg (by decide), if_neg (by omega)]
        rfl
      · refine ⟨_, rfl, rfl, _, rfl, ?_⟩
        refine ite_eq (I_dec _ _) (iteD (fun h2 => ?_) (fun h2 => ?_))
        · refine ⟨_, rfl, _, _, rfl, rfl, ⟨by decide, by decide⟩, ?_⟩
          refine ⟨_, rfl, du, _, _, 1, rfl, rfl, d1, rfl, rfl, ?_, f1.skip hdu⟩
          rw [upd_same, dR_tells]
          unfold dR
          rw [if_pos rfl, if_neg h1, if_neg (by decide), if_pos rfl, if_pos h2, if_neg (by decide), if_neg (by decide), if_neg (by omega)]
          rfl
        · refine ⟨_, rfl, _, _, rfl, rfl, ⟨by decide, by decide⟩, ?_⟩
          refine ⟨_, rfl, du, _, _, 2, rfl, rfl, d1, rfl, rfl, ?_, f1.skip hdu⟩
          rw [upd_same, dR_tells]
          unfold dR
          rw [if_pos rfl, if_neg h1, if_neg (by decide), if_pos rfl, if_neg h2, if_neg (by decide), if_neg (by decide), if_pos (by omega)]
          rfl
    rintro σ H2 ⟨rfl, d2, f2⟩
    refine ⟨(by show 0 ≤ sizeLine; decide), fun to hto => ?_⟩
    have f3 : Fr [] H2 (L2.upd H2 to (.lst [])) := Fr.new hto
    have t2 : L2.upd H2 to (.lst []) to = some (.lst (tells (dR n) 0)) := upd_same
    have d3 := f3 _ _ d2 (by simp)
    have ndt : du ≠ to := ne_of_none d2 hto
    have hto0 : H to = none := by
      cases e : H to with
      | none => rfl
      | some o => rw [f2 _ _ e (by simp)] at hto; cases hto
    have f2 := f2.trans f3
    generalize L2.upd H2 to (.lst []) = H2' at f2 t2 d3
    clear f3
    refine ⟨fun σ H' => ∃ v3 v4 : Option V, σ = [some (.int n), some (.int (n % 4)), some (.ref du), some (.ref to), v3, v4] ∧ H' to = some (.lst (tells (dR n) 3)) ∧ H' du = some (.lst (tells (dR n) 3)) ∧ Fr [] H H', ?_, ?_⟩
    · refine ⟨3, rfl, by decide, by decide, for_range (lo := 0) (n := 3) (fun i σ H' => ∃ v3 v4 : Option V, σ = [some (.int n), some (.int (n % 4)), some (.ref du), some (.ref to), v3, v4] ∧ H' to = some (.lst (tells (dR n) i)) ∧ H' du = some (.lst (tells (dR n) 3)) ∧ Fr [] H H')
        ⟨none, none, rfl, t2, d3, f2⟩ (fun i σ H3 hi hI => ?_) (fun σ H3 hI => hI)⟩
      clear d3 f2 t2
      obtain ⟨v3, v4, rfl, t3, d3, f3⟩ := hI
      have good : ∀ (v : V) (v4 : Option V), v = dR n i → ∃ v3' v4' : Option V, [some (.int n), some (.int (n % 4)), some (.ref du), some (.ref to), some (.int (0 + (i : Int))), v4] = [some (V.int n), some (.int (n % 4)), some (.ref du), some (.ref to), v3', v4'] ∧ L2.upd H3 to (.lst (tells (dR n) i ++ [v])) to = some (.lst (tells (dR n) (i + 1))) ∧ L2.upd H3 to (.lst (tells (dR n) i ++ [v])) du = some (.lst (tells (dR n) 3)) ∧ Fr [] H (L2.upd H3 to (.lst (tells (dR n) i ++ [v]))) := fun v v4 e => by
        refine ⟨_, _, rfl, ?_, ?_, f3.skip hto0⟩
        · rw [upd_same, e, tells_succ]
        · rw [upd_ne ndt]; exact d3
      have sz : (tells (dR n) i).length < sizeLine := by rw [tells_len, sizeLine_eq]; omega
      refine ⟨_, rfl, rfl, _, rfl, ?_⟩
      refine ite_eq (I_dec _ _) (iteD (fun h0 => ?_) (fun h0 => ?_))
      · have h0 : i = 0 := by omega
        refine ⟨_, rfl, Or.inl ⟨rfl, _, SqL.of t3⟩, ?_⟩
        refine ⟨_, rfl, ?_⟩
        refine ⟨n, rfl, hs, fun ok => ?_, fun nok d hd => ?_⟩
        · refine ⟨to, _, _, rfl, rfl, t3, sz, good _ _ ?_⟩
          show _ = dR n i
          unfold dR
          rw [if_pos h0, if_pos ok]
        · refine ⟨true, W.em_B, fun _ a ha => ?_, fun z => nomatch z⟩
          have t4 : L2.upd H3 d (.xd [("word", V.int n)]) to = some (.lst (tells (dR n) i)) := by rw [upd_ne (ne_of_none t3 hd)]; exact t3
          refine ⟨_, rfl, _, rfl, ?_⟩
          refine ⟨d, n, rfl, rfl, rfl, upd_same, ?_⟩
          refine ⟨_, rfl, iteF ?_⟩
          refine ⟨_, rfl, Or.inl ⟨rfl, _, SqL.of t4⟩, ?_⟩
          refine ⟨to, _, _, rfl, rfl, t4, sz, _, _, rfl, ?_, ?_, ?_⟩
          · rw [upd_same, tells_succ]
            have e : dR n i = .non := by
              unfold dR
              rw [if_pos h0, if_neg nok]
            rw [e]
          · rw [upd_ne ndt, upd_ne (ne_of_none d3 hd)]; exact d3
          · exact (f3.trans (Fr.new hd)).skip hto0
      · have h0 : ¬ i = 0 := by omega
        refine ⟨_, rfl, rfl, _, rfl, ?_⟩
        refine ite_eq (I_dec _ _) (iteD (fun h1 => ?_) (fun h1 => ?_))
        · have h1 : i = 1 := by omega
          refine ⟨_, rfl, Or.inl ⟨rfl, _, SqL.of t3⟩, ?_⟩
          refine ⟨_, rfl, ?_⟩
          refine ⟨n, rfl, hs, fun ok => ?_, fun nok d hd => ?_⟩
          · refine ⟨to, _, _, rfl, rfl, t3, sz, good _ _ ?_⟩
            show _ = dR n i
            unfold dR
            rw [if_neg h0, if_pos h1, if_pos ok]
          · refine ⟨true, W.em_B, fun _ a ha => ?_, fun z => nomatch z⟩
            have t4 : L2.upd H3 d (.xd [("word", V.int n)]) to = some (.lst (tells (dR n) i)) := by rw [upd_ne (ne_of_none t3 hd)]; exact t3
            refine ⟨_, rfl, _, rfl, ?_⟩
            refine ⟨d, n, rfl, rfl, rfl, upd_same, ?_⟩
            refine ⟨_, rfl, iteF ?_⟩
            refine ⟨_, rfl, Or.inl ⟨rfl, _, SqL.of t4⟩, ?_⟩
            refine ⟨to, _, _, rfl, rfl, t4, sz, _, _, rfl, ?_, ?_, ?_⟩
            · rw [upd_same, tells_succ]
              have e : dR n i = .non := by
                unfold dR
                rw [if_neg h0, if_pos h1, if_neg nok]
              rw [e]
            · rw [upd_ne ndt, upd_ne (ne_of_none d3 hd)]; exact d3
            · exact (f3.trans (Fr.new hd)).skip hto0
        · have h1 : ¬ i = 1 := by omega
          refine ⟨_, rfl, Or.inl ⟨rfl, _, SqL.of t3⟩, ?_⟩
          refine ⟨_, rfl, ?_⟩
          refine ⟨n, rfl, hs, fun ok => ?_, fun nok d hd => ?_⟩
          · refine ⟨to, _, _, rfl, rfl, t3, sz, good _ _ ?_⟩
            show _ = dR n i
            unfold dR
            rw [if_neg h0, if_neg h1, if_pos ok]
          · refine ⟨true, W.em_B, fun _ a ha => ?_, fun z => nomatch z⟩
            have t4 : L2.upd H3 d (.xd [("word", V.int n)]) to = some (.lst (tells (dR n) i)) := by rw [upd_ne (ne_of_none t3 hd)]; exact t3
            refine ⟨_, rfl, _, rfl, ?_⟩
            refine ⟨d, n, rfl, rfl, rfl, upd_same, ?_⟩
            refine ⟨_, rfl, iteF ?_⟩
            refine ⟨_, rfl, Or.inl ⟨rfl, _, SqL.of t4⟩, ?_⟩
            refine ⟨to, _, _, rfl, rfl, t4, sz, _, _, rfl, ?_, ?_, ?_⟩
            · rw [upd_same, tells_succ]
              have e : dR n i = .non := by
                unfold dR
                rw [if_neg h0, if_neg h1, if_neg nok]
              rw [e]
            · rw [upd_ne ndt, upd_ne (ne_of_none d3 hd)]; exact d3
            · exact (f3.trans (Fr.new hd)).skip hto0
    clear d3 f2 t2
    rintro σ H3 ⟨v3, v4, rfl, t3, d3, f3⟩
    -- due is told
    refine ⟨fun σ H' => (∃ v3 : Option V, σ = [some (.int n), some (.int (n % 4)), some (.ref du), some (.ref to), v3, v4]) ∧ Fr [] H H', ?_, ?_⟩
    · refine ⟨3, rfl, by decide, by decide, for_range (lo := 0) (n := 3) (fun i σ H' => (∃ v3 : Option V, σ = [some (.int n), some (.int (n % 4)), some (.ref du), some (.ref to), v3, v4]) ∧ H' = H3) ⟨⟨_, rfl⟩, rfl⟩ (fun i σ H' hi hI => ?_) (fun σ H' hI => ⟨hI.1, by rw [hI.2]; exact f3⟩)⟩
      obtain ⟨⟨v3, rfl⟩, rfl⟩ := hI
      have aD := tells_at (f := dR n) hi
      have ok := dR_ok n i
      generalize dR n i = v at aD ok
      refine ⟨_, rfl, _, rfl, Or.inl ⟨_, _, _, rfl, Or.inl (SqL.of d3), by rw [Int.zero_add]; exact atI_nat aD, ?_⟩⟩
      refine ⟨_, rfl, ?_⟩
      refine iteD (fun hv => ?_) (fun hv => ?_)
      · refine ⟨_, rfl, _, rfl, Or.inl ⟨_, _, _, rfl, Or.inl (SqL.of t3), by rw [Int.zero_add]; exact atI_nat aD, ?_⟩⟩
        refine ⟨_, rfl, ?_⟩
        refine iteND (fun h => absurd hv h) (fun _ => ?_)
        refine ⟨_, rfl, _, rfl, Or.inl ⟨_, _, _, rfl, Or.inl (SqL.of d3), by rw [Int.zero_add]; exact atI_nat aD, ?_⟩⟩
        refine ⟨_, rfl, ?_⟩
        refine iteND (fun h => absurd hv h) (fun _ => ?_)
        exact ⟨⟨_, rfl⟩, rfl⟩
      · obtain ⟨z, rfl⟩ : ∃ z, v = .int z := by
          cases v with
          | int z => exact ⟨z, rfl⟩
          | non => exact absurd rfl hv
          | _ => exact ok.elim
        refine ⟨_, rfl, _, rfl, Or.inl ⟨_, _, _, rfl, Or.inl (SqL.of d3), by rw [Int.zero_add]; exact atI_nat aD, ?_⟩⟩
        refine ⟨_, rfl, ?_⟩
        refine iteND (fun h => ?_) (fun h => absurd h hv)
        refine ⟨_, rfl, _, rfl, Or.inl ⟨_, _, _, rfl, Or.inl (SqL.of t3), by rw [Int.zero_add]; exact atI_nat aD, ?_⟩⟩
        refine ⟨_, rfl, _, rfl, Or.inl ⟨_, _, _, rfl, Or.inl (SqL.of d3), by rw [Int.zero_add]; exact atI_nat aD, ?_⟩⟩
        refine ⟨Or.inl ⟨z, rfl⟩, ?_⟩
        refine ⟨_, rfl, iteF ?_⟩
        exact ⟨⟨_, rfl⟩, rfl⟩
    rintro σ H4 ⟨⟨v5, rfl⟩, f4⟩
    refine ⟨_, rfl, ?_⟩
    refine ⟨n, rfl, ?_⟩
    refine ⟨_, rfl, rfl, ?_⟩
    refine ⟨Or.inr ⟨decide (n % 4 = 1), by show [V.bl (decide (n % 4 = 1)), .bl (decide (V.int (n % 4) = V.int 1))] = _; rw [I_dec]⟩, ?_⟩
    refine ⟨_, rfl, iteT ?_⟩
    refine ⟨_, rfl, ?_⟩
    refine ⟨n, rfl, ?_⟩
    refine ⟨_, rfl, rfl, ?_⟩
    refine ⟨Or.inr ⟨decide (n % 4 = 3), by show [V.bl (decide (n % 4 = 3)), .bl (decide (V.int (n % 4) = V.int 3))] = _; rw [I_dec]⟩, ?_⟩
    refine ⟨_, rfl, iteT ?_⟩
    refine ⟨_, rfl, ?_⟩
    refine ⟨n, rfl, ?_⟩
    refine ⟨_, rfl, _, _, rfl, rfl, (by show (0 : Int) < 2; decide), rfl, ?_⟩
    refine ⟨Or.inr ⟨decide (n % 2 = 0), by
      show [V.bl (decide (n % 2 = 0)), .bl (decide (V.int (n % 4 % 2) = V.int 0))] = _
      rw [I_dec, show n % 4 % 2 = n % 2 by omega]⟩, ?_⟩
    exact k _ f4
end

end LX
namespace LX
open PySem PySem.Spec PyProof.Rows L2 NdefX
section
variable {P : Program} {w : World} {K : PySem.W.Frag} {mg : Str → Option Value} {base : Heap}
def sp_law (K : PySem.W.Frag) : Sp := fun vs H Q _ => ∃ (a : Addr) (ns : List Int), vs = [.ref a] ∧ SqL K H a (ns.map V.int) ∧ ns.length ≤ 63 ∧ ∀ H', Q (.bl true) H'
theorem ok_law (W : Wd P K mg) : FnOk P w K mg base CX0 5 W.f_law W.fd_law ["_law_script"] (sp_law K) := by
  refine W.F_law.ok sc_law (fun vs H Q E h => ?_) (fun cdv Ar outer s H vs Q E hr h => ?_)
  · obtain ⟨a, ns, rfl, _⟩ := h
    rfl
  · obtain ⟨a, ns, rfl, hs, hl, k⟩ := h
    have hu1 := hu_of hr
    have hu64 := hu64_of hr
    refine ⟨_, (pss_cons (ps_if (PW.pt (pw_or (pt_not (pt_truth (pe_call (ok__law_is W) (hr.mono (by decide)) rfl W.g__law_is W.F__law_is.kp W.b__law_is .nil pass0 (pa_cons (pe_gi rfl W.g_NIL) (pa_cons pe_int pa_nil))) (by intro _; rfl))) (pw_or (pt_not (pt_truth (pe_call (ok__law_is W) (hr.mono (by decide)) rfl W.g__law_is W.F__law_is.kp W.b__law_is .nil pass0 (pa_cons (pe_gi rfl W.g_LEAST) (pa_cons (pe_un un_neg pe_int) pa_nil))) (by intro _; rfl))) (pw_or1 (pt_not (pt_truth (pe_call (ok__law_is W) (hr.mono (by decide)) rfl W.g__law_is W.F__law_is.kp W.b__law_is .nil pass0 (pa_cons (pe_gi rfl W.g_GREATEST) (pa_cons pe_int pa_nil))) (by intro _; rfl))))))) (pss_one (ps_ret pe_bl)) pss_nil)
      (pss_cons (ps_if (pt_not (pt_truth (pe_call (ok__law_is W) (hr.mono (by decide)) rfl W.g__law_is W.F__law_is.kp W.b__law_is .nil pass0 (pa_cons (pe_gi rfl W.g_MOST) (pa_cons pe_int pa_nil))) (by intro _; rfl))) (pss_one (ps_ret pe_bl)) pss_nil)
      (pss_cons (ps_setLc (i := 1) (own := [("_law_cell", 2)]) (g := gName 2) (tt := tYes) rfl sc_law.nd rfl rfl (sw_true rfl rfl rfl (by decide +kernel)) (pi_list (pv 0)) (blkOk_by (N := N_law) (sc := defScope s_law) (by decide +kernel)) (fun _ _ _ _ _ => (pg_name (i := 2) sc_law.nd rfl (by first | exact Or.inl rfl | exact Or.inr rfl))) (fun _ _ _ _ _ => pts_nil) (fun _ _ _ _ _ => (pe_callTy call_intU (by rfl) W.n_int bb_int (pa_cons (pv 2) pa_nil))))
      (Evl.pss_cut (ps_if (pt_not (pt_truth (pv 1) (by intro _; rfl))) (pss_one (ps_set (i := 1) sc_law.nd rfl (by first | exact Or.inl rfl | exact Or.inr rfl) (pe_lst (pa_cons pe_int pa_nil)))) pss_nil)
      (pss_cons (ps_for PassesOwn.never rfl (pi_list (pv 1)) (pg_name (i := 2) sc_law.nd rfl (by first | exact Or.inl rfl | exact Or.inr rfl)) (pss_cons (ps_set (i := 3) sc_law.nd rfl (by first | exact Or.inl rfl | exact Or.inr rfl) (pe_call (ok__law_integer W) (hr.mono (by decide)) rfl W.g__law_integer W.F__law_integer.kp W.b__law_integer .nil pass0 (pa_cons (pv 2) pa_nil)))
      (Evl.pss_cut (ps_if (pt_not (pt_truth (pe_call (ok__law_is W) (hr.mono (by decide)) rfl W.g__law_is W.F__law_is.kp W.b__law_is .nil pass0 (pa_cons (pe_call (ok_fits W) (hr.mono (by decide)) rfl W.g_fits W.F_fits.kp W.b_fits .nil pass0 (pa_cons (pv 3) pa_nil)) (pa_cons (pe_chain op_leU op_ltU (pe_un un_neg pe_int) (pv 3) pe_int) pa_nil))) (by intro _; rfl))) (pss_one (ps_ret pe_bl)) pss_nil)
      (pss_cons (ps_if (pt_not (pt_truth (pe_call (ok__law_is W) (hr.mono (by decide)) rfl W.g__law_is W.F__law_is.kp W.b__law_is .nil pass0 (pa_cons (pe_call (ok_is_word W) (hr.mono (by decide)) rfl W.g_is_word W.F_is_word.kp W.b_is_word .nil pass0 (pa_cons (pv 3) pa_nil)) (pa_cons (pe_call (ok__law_is_word W) (hr.mono (by decide)) rfl W.g__law_is_word W.F__law_is_word.kp W.b__law_is_word .nil pass0 (pa_cons (pv 3) pa_nil)) pa_nil))) (by intro _; rfl))) (pss_one (ps_ret pe_bl)) pss_nil)
      (pss_one (ps_if (PW.pt (pw_or (pt_not (pt_truth (pe_call (ok__law_made W) (hr.mono (by decide)) rfl W.g__law_made W.F__law_made.kp W.b__law_made .nil pass0 (pa_cons (pv 3) pa_nil)) (by intro _; rfl))) (pw_or1 (pt_not (pt_truth (pe_call (ok__law_read W) (hr.mono (by decide)) rfl W.g__law_read W.F__law_read.kp W.b__law_read .nil pass0 (pa_cons (pv 3) pa_nil)) (by intro _; rfl)))))) (pss_one (ps_ret pe_bl)) pss_nil))))))
      (pss_one (ps_ret pe_bl))))))), ?_⟩
    -- the constants
    refine ⟨Or.inl ⟨0, rfl⟩, ?_⟩
    refine ⟨_, rfl, iteF ?_⟩
    refine ⟨_, rfl, ?_⟩
    refine ⟨Or.inl ⟨-268435456, rfl⟩, ?_⟩
    refine ⟨_, rfl, iteF ?_⟩
    refine ⟨Or.inl ⟨268435455, rfl⟩, ?_⟩
    refine ⟨_, rfl, iteF ?_⟩
    refine ⟨Or.inl ⟨100000, rfl⟩, ?_⟩
    refine ⟨_, rfl, iteF ?_⟩
    -- cells
    refine ⟨_, rfl, a, rfl, ⟨_, hs⟩, fun cl hcl => ?_⟩
    refine lc_list (K := K) (a := a) (xs := ns.map V.int) (fun i H' => H' = upd H cl (.lst ((ns.take i).map V.int))) rfl (fun i H' _ e => ?_) (fun i x H' hx e => ?_) (fun H' e => ?_)
    · subst e
      have same : L2.Same H (upd H cl (.lst ((ns.take i).map V.int))) := fun b u e => by rw [upd_ne (ne_of_none e hcl)]; exact e
      exact same.seq hs
    · subst e
      rw [List.getElem?_map] at hx
      obtain ⟨n, hn, rfl⟩ := Option.map_eq_some_iff.mp hx
      refine ⟨rfl, ?_⟩
      refine ⟨_, rfl, ?_⟩
      refine ⟨_, upd_same, by rw [List.length_map, List.length_take, sizeLine_eq]; omega, ?_⟩
      rw [upd_upd, List.take_succ, hn, List.map_append]
      rfl
    subst e
    rw [List.length_map, List.take_length]
    have hc1 : upd H cl (.lst (ns.map V.int)) cl = some (.lst (ns.map V.int)) := upd_same
    show gName 1 (V.ref cl) _ (upd H cl (.lst (ns.map V.int))) _
    generalize upd H cl (.lst (ns.map V.int)) = H1 at hc1
    refine ⟨fun σ H' => ∃ (cl2 : Addr) (cs : List Int), σ = (L2.start N_law [V.ref a]).set 1 (some (.ref cl2)) ∧ IsI H' cl2 cs, ?_, ?_⟩
    · refine ⟨_, rfl, _, Or.inl ⟨_, SqL.of hc1, rfl⟩, ?_⟩
      cases ns with
      | nil =>
        refine iteT ?_
        refine ⟨(by show 1 ≤ sizeLine; decide), fun q hq => ?_⟩
        exact ⟨q, [976], rfl, upd_same⟩
      | cons n0 r0 =>
        refine iteF ?_
        exact ⟨cl, n0 :: r0, rfl, hc1⟩
    rintro σ H2 ⟨cl2, cs, rfl, hc⟩
    refine ⟨_, rfl, cl2, rfl, ⟨_, SqL.of hc⟩, ?_⟩
    refine for_list (K := K) (a := cl2) (xs := cs.map V.int) (fun i σ H' => (∃ v2 v3 : Option V, σ = [some (.ref a), some (.ref cl2), v2, v3]) ∧ Fr [] H2 H') ⟨⟨_, _, rfl⟩, Fr.rfl'⟩ (fun i σ H' _ e => SqL.of (e.2 _ _ hc (by simp))) (fun i x σ H3 hx e => ?_) (fun σ H' e => k _)
    obtain ⟨⟨v2, v3, rfl⟩, f3⟩ := e
    rw [List.getElem?_map] at hx
    obtain ⟨c, hc0, rfl⟩ := Option.map_eq_some_iff.mp hx
    refine ⟨_, rfl, ?_⟩
    refine ⟨c, rfl, fun n H4 hn f4 => ?_⟩
    have f4 := f3.trans f4
    have so := strOk_of hn
    -- fits
    refine ⟨fun σ H' => σ = [some (.ref a), some (.ref cl2), some (.int c), some (.int n)] ∧ Fr [] H2 H', ?_, ?_⟩
    · refine ⟨_, rfl, n, rfl, ?_⟩
      refine ⟨_, rfl, _, rfl, _, rfl, ?_⟩
      refine iteD (fun h1 => ?_) (fun h1 => ?_)
      · have h1 : (-268435456 : Int) ≤ n := h1
        have e : fitsB n = decide (n < 268435456) := by
          unfold fitsB
          by_cases q : n < 268435456
          · rw [decide_eq_true q, decide_eq_true (show _ ∧ _ from ⟨h1, by omega⟩)]
          · rw [decide_eq_false q, decide_eq_false (fun z => by omega)]
        refine ⟨Or.inr ⟨fitsB n, by rw [e]; rfl⟩, ?_⟩
        exact ⟨_, rfl, iteF ⟨rfl, f4⟩⟩
      · have h1 : ¬ (-268435456 : Int) ≤ n := h1
        have e : fitsB n = false := by unfold fitsB; rw [decide_eq_false (fun z => h1 z.1)]
        refine ⟨Or.inr ⟨fitsB n, by rw [e]; rfl⟩, ?_⟩
        exact ⟨_, rfl, iteF ⟨rfl, f4⟩⟩
    clear f4
    rintro σ H5 ⟨rfl, f4⟩
    refine ⟨_, rfl, n, rfl, ?_⟩
    refine ⟨_, rfl, n, rfl, ?_⟩
    refine ⟨Or.inr ⟨isW n, rfl⟩, ?_⟩
    refine ⟨_, rfl, iteF ?_⟩
    refine ⟨_, rfl, ?_⟩
    refine ⟨n, rfl, so, fun H6 f6 => ?_⟩
    refine ⟨_, rfl, iteF ?_⟩
    refine ⟨_, rfl, ?_⟩
    refine ⟨n, rfl, so, fun H7 f7 => ?_⟩
    refine ⟨_, rfl, iteF ?_⟩
    exact ⟨⟨_, _, rfl⟩, f4.trans (f6.trans f7)⟩
end

end LX
namespace LX
open PySem PySem.Spec PyProof.Rows L2 NdefX

theorem all_mk {l : PySem.W.OpenLaw} {w : World} {K : PySem.W.Frag} {mg : Str → Option Value} {fa : Addr} (W : Wd l.prog K mg) (hfa : mg "law" = some (.ref fa)) :
    ∃ fd : FuncData, (∀ (s : Shared) (v : Value), BindsTo s fd ⟨[v], []⟩ [("_law_script", v)]) ∧ ∀ base : Heap, K.In base → base.Ns mainGlobals mg → FnOk l.prog w K mg base CX0 5 fa fd ["_law_script"] (sp_law K) := by
  have e := hfa.symm.trans W.g_law
  cases e
  obtain ⟨oc, od, kV, doc, pm, an, cdv, ct, osl, e, _, _⟩ := W.F_law.ex
  exact ⟨W.fd_law, fun s v => by rw [e]; exact .of_eq rfl, fun base _ _ => ok_law W⟩
theorem walk {l : PySem.W.OpenLaw} {q : Program} {loose : List Str} {XP : (Str → Option Value) → Heap → Prop} {YP : World → Heap → Prop} {d : DefRec} {K : Params → PySem.W.Frag} (hn : l.most = some 63) (hdf : d.params.defaults = [])
    (hY : ∀ (w : World) (h : Heap), YP w h → (K w.params).In h)
    (F : ∀ (w : World) (mg : Str → Option Value) (fa : Addr) (h : Heap), (K w.params).In h → h.Ns mainGlobals mg → mg d.name = some (.ref fa) →
      ∃ fd : FuncData, (∀ (s : Shared) (u : Value), BindsTo s fd ⟨[u], []⟩ [("_law_script", u)]) ∧ ∀ base : Heap, (K w.params).In base → base.Ns mainGlobals mg → FnOk l.prog w (K w.params) mg base CX0 5 fa fd ["_law_script"] (sp_law (K w.params))) :
    PySem.W.WalkO q loose XP YP l.row.toRowW d [] (fun f vs => PySem.call f vs) :=
  L2.walk_of (n := 63) (k := 5) (x := "_law_script") (CX := fun _ => CX0) (sp := fun w => sp_law (K w.params)) hn (by decide) hdf ⟨rfl, by decide, by decide⟩ hY F (fun _ _ a ns hl _ hS => ⟨a, ns, rfl, hS, hl, fun _ => rfl⟩) fun _ _ _ _ _ z => z

end LX

open PySem PySem.W PyProof.Rows
set_option maxRecDepth 100000 in
set_option maxHeartbeats 0 in
theorem PySem.Challenge.cw_saggar_k00_words_back_and_forth_holds : PySem.Challenge.rw_saggar_k00_words_back_and_forth.Holds := by
  w_on; o_law; k_head; (case hw => w_witness2)
  k_fill
  refine LX.walk (l := PySem.Challenge.rw_saggar_k00_words_back_and_forth) rfl rfl (fun w h Y => PySem.W.kIn_of Y) ?F
  case F =>
    intro w mg fa h KX G hmg
    refine' LX.all_mk (l := PySem.Challenge.rw_saggar_k00_words_back_and_forth) (LX.mkW KX G ?z_third ?z_super ?z_top ?z_sg ?z_st ?z_ValueError ?z_bool ?z_int ?z_isinstance ?z_range ?z_str ?c_NIL ?c_LEAST ?c_GREATEST ?c_MOST ?cl_SaggarError ?cl_BadWord ?cl_NoRoom ?a_BadWord___init__ ?l_BadWord___init__ ?c_BadWord___init__ ?k_BadWord___init__ ?x1_BadWord___init__ ?x2_BadWord___init__ ?x3_BadWord___init__ ?x4_BadWord___init__ ?xl_BadWord ?xr_BadWord ?xs_BadWord ?xe_BadWord ?xt_BadWord ?xk_BadWord ?xm_BadWord ?xi_BadWord ?xb_BadWord ?eg_BadWord ?ek_BadWord ?ed_BadWord ?ea_BadWord ?em_BadWord ?xn_BadWord_word ?a_fits ?l_fits ?c_fits ?k_fits ?a_of_int ?l_of_int ?c_of_int ?k_of_int ?a_of_symbol ?l_of_symbol ?c_of_symbol ?k_of_symbol ?a_of_ref ?l_of_ref ?c_of_ref ?k_of_ref ?a_is_int ?l_is_int ?c_is_int ?k_is_int ?a_is_symbol ?l_is_symbol ?c_is_symbol ?k_is_symbol ?a_is_ref ?l_is_ref ?c_is_ref ?k_is_ref ?a_int_of ?l_int_of ?c_int_of ?k_int_of ?a_symbol_of ?l_symbol_of ?c_symbol_of ?k_symbol_of ?a_ref_of ?l_ref_of ?c_ref_of ?k_ref_of ?a_is_word ?l_is_word ?c_is_word ?k_is_word ?a__law_integer ?l__law_integer ?c__law_integer ?k__law_integer ?a__law_is ?l__law_is ?c__law_is ?k__law_is ?a__law_error ?l__law_error ?c__law_error ?k__law_error ?a__law_made ?l__law_made ?c__law_made ?k__law_made ?a__law_read ?l__law_read ?c__law_read ?k__law_read ?a__law_is_word ?l__law_is_word ?c__law_is_word ?k__law_is_word ?a_law ?l_law ?c_law ?k_law ?qkb_S ?qkb_V ?qkb_N ?qem_B) hmg
    (case z_third => first | k_is | ks_is | rfl | decide +kernel)
    (case z_super => first | k_is | ks_is | rfl | decide +kernel)
    (case z_top => first | k_is | ks_is | rfl | decide +kernel)
    (case z_sg => first | k_is | ks_is | rfl | decide +kernel)
    (case z_st => first | k_is | ks_is | rfl | decide +kernel)
    (case z_ValueError => first | k_is | ks_is | rfl | decide +kernel)
    (case z_bool => first | k_is | ks_is | rfl | decide +kernel)
    (case z_int => first | k_is | ks_is | rfl | decide +kernel)
    (case z_isinstance => first | k_is | ks_is | rfl | decide +kernel)
    (case z_range => first | k_is | ks_is | rfl | decide +kernel)
    (case z_str => first | k_is | ks_is | rfl | decide +kernel)
    (case c_NIL => first | k_is | ks_is | rfl | decide +kernel)
    (case c_LEAST => first | k_is | ks_is | rfl | decide +kernel)
    (case c_GREATEST => first | k_is | ks_is | rfl | decide +kernel)
    (case c_MOST => first | k_is | ks_is | rfl | decide +kernel)
    (case cl_SaggarError => first | k_is | ks_is | rfl | decide +kernel)
    (case cl_BadWord => first | k_is | ks_is | rfl | decide +kernel)
    (case cl_NoRoom => first | k_is | ks_is | rfl | decide +kernel)
    (case a_BadWord___init__ => first | k_is | ks_is | rfl | decide +kernel)
    (case l_BadWord___init__ => first | k_is | ks_is | rfl | decide +kernel)
    (case c_BadWord___init__ => first | k_is | ks_is | rfl | decide +kernel)
    (case k_BadWord___init__ => first | k_is | ks_is | rfl | decide +kernel)
    (case x1_BadWord___init__ => first | k_is | ks_is | rfl | decide +kernel)
    (case x2_BadWord___init__ => first | k_is | ks_is | rfl | decide +kernel)
    (case x3_BadWord___init__ => first | k_is | ks_is | rfl | decide +kernel)
    (case x4_BadWord___init__ => first | k_is | ks_is | rfl | decide +kernel)
    (case xl_BadWord => first | k_is | ks_is | rfl | decide +kernel)
    (case xr_BadWord => first | k_is | ks_is | rfl | decide +kernel)
    (case xs_BadWord => first | k_is | ks_is | rfl | decide +kernel)
    (case xe_BadWord => first | k_is | ks_is | rfl | decide +kernel)
    (case xt_BadWord => first | k_is | ks_is | rfl | decide +kernel)
    (case xk_BadWord => first | k_is | ks_is | rfl | decide +kernel)
    (case xm_BadWord => first | k_is | ks_is | rfl | decide +kernel)
    (case xi_BadWord => first | k_is | ks_is | rfl | decide +kernel)
    (case xb_BadWord => first | k_is | ks_is | rfl | decide +kernel)
    (case eg_BadWord => first | k_is | ks_is | rfl | decide +kernel)
    (case ek_BadWord => first | k_is | ks_is | rfl | decide +kernel)
    (case ed_BadWord => first | k_is | ks_is | rfl | decide +kernel)
    (case ea_BadWord => first | k_is | ks_is | rfl | decide +kernel)
    (case em_BadWord => first | k_is | ks_is | rfl | decide +kernel)
    (case xn_BadWord_word => first | k_is | ks_is | rfl | decide +kernel)
    (case a_fits => first | k_is | ks_is | rfl | decide +kernel)
    (case l_fits => first | k_is | ks_is | rfl | decide +kernel)
    (case c_fits => first | k_is | ks_is | rfl | decide +kernel)
    (case k_fits => first | k_is | ks_is | rfl | decide +kernel)
    (case a_of_int => first | k_is | ks_is | rfl | decide +kernel)
    (case l_of_int => first | k_is | ks_is | rfl | decide +kernel)
    (case c_of_int => first | k_is | ks_is | rfl | decide +kernel)
    (case k_of_int => first | k_is | ks_is | rfl | decide +kernel)
    (case a_of_symbol => first | k_is | ks_is | rfl | decide +kernel)
    (case l_of_symbol => first | k_is | ks_is | rfl | decide +kernel)
    (case c_of_symbol => first | k_is | ks_is | rfl | decide +kernel)
    (case k_of_symbol => first | k_is | ks_is | rfl | decide +kernel)
    (case a_of_ref => first | k_is | ks_is | rfl | decide +kernel)
    (case l_of_ref => first | k_is | ks_is | rfl | decide +kernel)
    (case c_of_ref => first | k_is | ks_is | rfl | decide +kernel)
    (case k_of_ref => first | k_is | ks_is | rfl | decide +kernel)
    (case a_is_int => first | k_is | ks_is | rfl | decide +kernel)
    (case l_is_int => first | k_is | ks_is | rfl | decide +kernel)
    (case c_is_int => first | k_is | ks_is | rfl | decide +kernel)
    (case k_is_int => first | k_is | ks_is | rfl | decide +kernel)
    (case a_is_symbol => first | k_is | ks_is | rfl | decide +kernel)
    (case l_is_symbol => first | k_is | ks_is | rfl | decide +kernel)
    (case c_is_symbol => first | k_is | ks_is | rfl | decide +kernel)
    (case k_is_symbol => first | k_is | ks_is | rfl | decide +kernel)
    (case a_is_ref => first | k_is | ks_is | rfl | decide +kernel)
    (case l_is_ref => first | k_is | ks_is | rfl | decide +kernel)
    (case c_is_ref => first | k_is | ks_is | rfl | decide +kernel)
    (case k_is_ref => first | k_is | ks_is | rfl | decide +kernel)
    (case a_int_of => first | k_is | ks_is | rfl | decide +kernel)
    (case l_int_of => first | k_is | ks_is | rfl | decide +kernel)
    (case c_int_of => first | k_is | ks_is | rfl | decide +kernel)
    (case k_int_of => first | k_is | ks_is | rfl | decide +kernel)
    (case a_symbol_of => first | k_is | ks_is | rfl | decide +kernel)
    (case l_symbol_of => first | k_is | ks_is | rfl | decide +kernel)
    (case c_symbol_of => first | k_is | ks_is | rfl | decide +kernel)
    (case k_symbol_of => first | k_is | ks_is | rfl | decide +kernel)
    (case a_ref_of => first | k_is | ks_is | rfl | decide +kernel)
    (case l_ref_of => first | k_is | ks_is | rfl | decide +kernel)
    (case c_ref_of => first | k_is | ks_is | rfl | decide +kernel)
    (case k_ref_of => first | k_is | ks_is | rfl | decide +kernel)
    (case a_is_word => first | k_is | ks_is | rfl | decide +kernel)
    (case l_is_word => first | k_is | ks_is | rfl | decide +kernel)
    (case c_is_word => first | k_is | ks_is | rfl | decide +kernel)
    (case k_is_word => first | k_is | ks_is | rfl | decide +kernel)
    (case a__law_integer => first | k_is | ks_is | rfl | decide +kernel)
    (case l__law_integer => first | k_is | ks_is | rfl | decide +kernel)
    (case c__law_integer => first | k_is | ks_is | rfl | decide +kernel)
    (case k__law_integer => first | k_is | ks_is | rfl | decide +kernel)
    (case a__law_is => first | k_is | ks_is | rfl | decide +kernel)
    (case l__law_is => first | k_is | ks_is | rfl | decide +kernel)
    (case c__law_is => first | k_is | ks_is | rfl | decide +kernel)
    (case k__law_is => first | k_is | ks_is | rfl | decide +kernel)
    (case a__law_error => first | k_is | ks_is | rfl | decide +kernel)
    (case l__law_error => first | k_is | ks_is | rfl | decide +kernel)
    (case c__law_error => first | k_is | ks_is | rfl | decide +kernel)
    (case k__law_error => first | k_is | ks_is | rfl | decide +kernel)
    (case a__law_made => first | k_is | ks_is | rfl | decide +kernel)
    (case l__law_made => first | k_is | ks_is | rfl | decide +kernel)
    (case c__law_made => first | k_is | ks_is | rfl | decide +kernel)
    (case k__law_made => first | k_is | ks_is | rfl | decide +kernel)
    (case a__law_read => first | k_is | ks_is | rfl | decide +kernel)
    (case l__law_read => first | k_is | ks_is | rfl | decide +kernel)
    (case c__law_read => first | k_is | ks_is | rfl | decide +kernel)
    (case k__law_read => first | k_is | ks_is | rfl | decide +kernel)
    (case a__law_is_word => first | k_is | ks_is | rfl | decide +kernel)
    (case l__law_is_word => first | k_is | ks_is | rfl | decide +kernel)
    (case c__law_is_word => first | k_is | ks_is | rfl | decide +kernel)
    (case k__law_is_word => first | k_is | ks_is | rfl | decide +kernel)
    (case a_law => first | k_is | ks_is | rfl | decide +kernel)
    (case l_law => first | k_is | ks_is | rfl | decide +kernel)
    (case c_law => first | k_is | ks_is | rfl | decide +kernel)
    (case k_law => first | k_is | ks_is | rfl | decide +kernel)
    (case qkb_S => first | k_is | ks_is | rfl | decide +kernel)
    (case qkb_V => first | k_is | ks_is | rfl | decide +kernel)
    (case qkb_N => first | k_is | ks_is | rfl | decide +kernel)
    (case qem_B => first | k_is | ks_is | rfl | decide +kernel)
    all_goals first | exact PySem.Value.none | exact none | exact (0 : PySem.Addr)

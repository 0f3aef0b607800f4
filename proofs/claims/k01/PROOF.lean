import PyProof.Rows.All
import Wide.All
import OpenK.AllK
import Wide.FinOn
import KE.KExcSuper
import HandS.ForMost
import HandS.ForExc
import HandS.ExcInit
import HandS.Nested
import HandS.Flow
import HandS.IsInst
import HandS.Wide
import HandS.StrMore
import HandS.RaiseMore
import HandS.TupAny
import HandS.Style
import HandS.NoneIn
import HandS.Conv
import HandS.Deep
import HandS.Small
import HandS.Evl
import HandS.SortInts
import HandS.More
import HandS.HotCalls
import HandS.ExcCtx
import HandS.ExcField
import HandS.ExcIs
import KE.KExcIs
import HandS.TryMany
import HandS.HeadWalk
import PyProof.StrOps2
import HandS.Defaults
import PySem.Challenge.RW_saggar_k01_symbols_keep_numbers
set_option Elab.async false
set_option linter.all false
set_option maxRecDepth 100000
set_option maxHeartbeats 4000000
/-! universal rules: by the values' constructors -/
namespace LX
open PySem PySem.Spec PyProof.Rows L2
section
variable {X : Cx}
/-! ### operators -/
def rAddU (K : PySem.W.Frag) : R2 := fun x y H Q => match x, y with
  | .int i, .int j => Q (.int (i + j)) H
  | .str i, .str j => i.length + j.length ≤ sizeLine ∧ Q (.str (i ++ j)) H
  | .ref a, .ref b => rCat (.ref a) (.ref b) H Q ∨ rCatA K (.ref a) (.ref b) H Q
  | _, _ => False
theorem op_addU : OpR X (binaryOp .Add) (rAddU X.K) := by
  intro pins s σ H x y v u Q I rx ry h
  unfold rAddU at h
  split at h
  · exact op_add pins s σ H _ _ v u Q I rx ry ⟨_, _, rfl, rfl, h⟩
  · exact op_add_str pins s σ H _ _ v u Q I rx ry ⟨_, _, rfl, rfl, h.1, h.2⟩
  · rcases h with h | h
    · exact op_cat pins s σ H _ _ v u Q I rx ry h
    · exact op_catA pins s σ H _ _ v u Q I rx ry h
  · exact h.elim
def rMulU : R2 := fun x y H Q => match x, y with
  | .int i, .int j => CMul i j ∧ Q (.int (i * j)) H
  | .ref a, .int j => rRep (.ref a) (.int j) H Q
  | _, _ => False
theorem op_mulU : OpR X (binaryOp .Mult) rMulU := by
  intro pins s σ H x y v u Q I rx ry h
  unfold rMulU at h
  split at h
  · exact op_mul pins s σ H _ _ v u Q I rx ry ⟨_, _, rfl, rfl, h.1, h.2⟩
  · exact op_rep pins s σ H _ _ v u Q I rx ry h
  · exact h.elim
/-- an order by ints, by texts -/
def rOrd (f : Int → Int → Bool) (g : List Nat → List Nat → Bool) : R2 := fun x y H Q => match x, y with
  | .int i, .int j => Q (.bl (f i j)) H
  | .str i, .str j => Q (.bl (g i.cps.toList j.cps.toList)) H
  | _, _ => False
abbrev rLtU : R2 := rOrd (fun i j => decide (i < j)) (fun i j => decide (i < j))
abbrev rLeU : R2 := rOrd (fun i j => decide (i ≤ j)) (fun i j => !decide (j < i))
abbrev rGtU : R2 := rOrd (fun i j => decide (j < i)) (fun i j => decide (j < i))
abbrev rGeU : R2 := rOrd (fun i j => decide (j ≤ i)) (fun i j => !decide (i < j))
theorem op_ltU : OpR X (compareOp .Lt) rLtU := by
  intro pins s σ H x y v u Q I rx ry h
  unfold rLtU rOrd at h
  split at h
  · exact op_lt pins s σ H _ _ v u Q I rx ry ⟨_, _, rfl, rfl, h⟩
  · exact op_lt_str pins s σ H _ _ v u Q I rx ry ⟨_, _, rfl, rfl, h⟩
  · exact h.elim
theorem op_leU : OpR X (compareOp .LtE) rLeU := by
  intro pins s σ H x y v u Q I rx ry h
  unfold rLeU rOrd at h
  split at h
  · exact op_le pins s σ H _ _ v u Q I rx ry ⟨_, _, rfl, rfl, h⟩
  · exact op_le_str pins s σ H _ _ v u Q I rx ry ⟨_, _, rfl, rfl, h⟩
  · exact h.elim
theorem op_gtU : OpR X (compareOp .Gt) rGtU := by
  intro pins s σ H x y v u Q I rx ry h
  unfold rGtU rOrd at h
  split at h
  · exact op_gt pins s σ H _ _ v u Q I rx ry ⟨_, _, rfl, rfl, h⟩
  · exact op_gt_str pins s σ H _ _ v u Q I rx ry ⟨_, _, rfl, rfl, h⟩
  · exact h.elim
theorem op_geU : OpR X (compareOp .GtE) rGeU := by
  intro pins s σ H x y v u Q I rx ry h
  unfold rGeU rOrd at h
  split at h
  · exact op_ge pins s σ H _ _ v u Q I rx ry ⟨_, _, rfl, rfl, h⟩
  · exact op_ge_str pins s σ H _ _ v u Q I rx ry ⟨_, _, rfl, rfl, h⟩
  · exact h.elim
/-- ==, != : two objects (deep), else by value -/
def rEqU (K : PySem.W.Frag) (g : Bool → Bool) : R2 := fun x y H Q => match x, y with
  | .ref a, .ref b => ∃ d e, Dp K H (.ref a) d ∧ Dp K H (.ref b) e ∧ SeqAt.shaped d = true ∧ SeqAt.shaped e = true ∧ Q (.bl (g (PyData.eqv d e))) H
  | x, y => scal x y = true ∧ Q (.bl (g (decide (x = y)))) H
theorem op_eqU (hu : X.A.units + 64 < cLine) : OpR X (compareOp .Eq) (rEqU X.K id) := by
  intro pins s σ H x y v u Q I rx ry h
  unfold rEqU at h
  split at h
  · exact op_eqD hu pins s σ H _ _ v u Q I rx ry h
  · exact op_eq pins s σ H _ _ v u Q I rx ry h
theorem op_neU (hu : X.A.units + 64 < cLine) : OpR X (compareOp .NotEq) (rEqU X.K (!·)) := by
  intro pins s σ H x y v u Q I rx ry h
  unfold rEqU at h
  split at h
  · exact op_neD hu pins s σ H _ _ v u Q I rx ry h
  · exact op_ne pins s σ H _ _ v u Q I rx ry h
/-- x is None, True, False -/
def rIsU (g : Bool → Bool) : R2 := fun x y H Q => match y with
  | .non => Q (.bl (g (decide (x = .non)))) H
  | .bl b => Q (.bl (g (decide (x = .bl b)))) H
  | _ => False
theorem op_isU : OpR X (compareOp .Is) (rIsU id) := by
  intro pins s σ H x y v u Q I rx ry h
  unfold rIsU at h
  split at h
  · exact op_isN pins s σ H _ _ v u Q I rx ry ⟨rfl, h⟩
  · rename_i b
    cases (show u = Value.bool b from ry)
    by_cases e : x = .bl b
    · subst e
      cases (show v = Value.bool b from rx)
      exact wpAny_is_self rfl ⟨.bl true, H, I, rfl, by simpa using h⟩
    · refine wpAny_is_other ?_ ?_ ⟨.bl false, H, I, rfl, by simpa [e] using h⟩
      · first | rfl | (cases x <;> first | rfl | (cases rx; rfl) | (obtain ⟨t, rfl⟩ := rx; rfl))
      · intro z
        subst z
        exact e (RelV.inj rx rfl)
  · exact h.elim
theorem op_isnotU : OpR X (compareOp .IsNot) (rIsU (!·)) := by
  intro pins s σ H x y v u Q I rx ry h
  unfold rIsU at h
  split at h
  · exact op_notN pins s σ H _ _ v u Q I rx ry ⟨rfl, h⟩
  · rename_i b
    cases (show u = Value.bool b from ry)
    by_cases e : x = .bl b
    · subst e
      cases (show v = Value.bool b from rx)
      exact wpAny_isNot_self rfl ⟨.bl false, H, I, rfl, by simpa using h⟩
    · refine wpAny_isNot_other ?_ ?_ ⟨.bl true, H, I, rfl, by simpa [e] using h⟩
      · first | rfl | (cases x <;> first | rfl | (cases rx; rfl) | (obtain ⟨t, rfl⟩ := rx; rfl))
      · intro z
        subst z
        exact e (RelV.inj rx rfl)
  · exact h.elim
/-! ### subscripts, slices, in -/
def rIxU (K : PySem.W.Frag) : R2 := fun x y H Q => match x with
  | .str z => ∃ i c, y = .int i ∧ z.length ≤ sizeLine ∧ atI z.cps.toList i = some c ∧ Q (.str ⟨#[c]⟩) H
  | .ref p => (∃ xs i v, y = .int i ∧ (SqL K H p xs ∨ SqT K H p xs) ∧ atI xs i = some v ∧ Q v H) ∨ (∃ v, DGet H p y (some v) ∧ Q v H)
  | _ => False
theorem ix_U (hu : X.A.units + 1 < cLine) : IxR X (rIxU X.K) := by
  intro value slice pins s σ H x y v u Q I rx ry h hs
  unfold rIxU at h
  split at h
  · obtain ⟨i, c, rfl, h1, h2, q⟩ := h
    exact ix_str value slice pins s σ H _ _ v u Q I rx ry ⟨_, _, _, rfl, rfl, h1, h2, q⟩ hs
  · rcases h with ⟨xs, i, w', rfl, h1 | h1, h2, q⟩ | ⟨w', g, q⟩
    · exact ix_list value slice pins s σ H _ _ v u Q I rx ry ⟨_, _, _, _, rfl, rfl, h1, h2, q⟩ hs
    · exact ix_tup value slice pins s σ H _ _ v u Q I rx ry ⟨_, _, _, _, rfl, rfl, h1, h2, q⟩ hs
    · rename_i p
      obtain rfl : v = Value.ref p := rx
      exact tail_any (dict_typeIs I g) PySem.F.slot_dict_getitem.lookup (d_getItem hu I g ry fun w2 s2 I2 rw2 => ⟨w', H, I2, rw2, q⟩) hs
  · exact h.elim
def rSlU (K : PySem.W.Frag) : V → Option Int → Option Int → Hp → VK → Prop := fun x lo hi H Q => match x with
  | .str z => z.length ≤ sizeLine ∧ Q (.str (cutS z lo hi)) H
  | .ref a => rSlL K (.ref a) lo hi H Q ∨ rSlA K (.ref a) lo hi H Q
  | _ => False
theorem sl_U : SlR X (rSlU X.K) := by
  intro pins s σ H x v vl vu lo hi sl Q I rx hs pl pu h
  unfold rSlU at h
  split at h
  · exact sl_str pins s σ H _ v vl vu lo hi sl Q I rx hs pl pu ⟨_, rfl, h.1, h.2⟩
  · rcases h with h | h
    · exact sl_list pins s σ H _ v vl vu lo hi sl Q I rx hs pl pu h
    · exact sl_tupA pins s σ H _ v vl vu lo hi sl Q I rx hs pl pu h
  · exact h.elim
/-- in, not in -/
def rInU (K : PySem.W.Frag) (g : Bool → Bool) : R2 := fun x y H Q => match y with
  | .str z => (∃ c : Nat, x = .str ⟨#[c]⟩ ∧ Q (.bl (g (decide (c ∈ z.cps.toList)))) H) ∨ ∃ i, x = .str i ∧ Q (.bl (g (!(Builtin.Str.occurrences z i 0 z.length 1).isEmpty))) H
  | .ref p => (∃ xs, (SqL K H p xs ∨ SqT K H p xs) ∧ flatV x = true ∧ xs.all flatV = true ∧ Q (.bl (g (inV x xs))) H) ∨ (∃ o, DGet H p x o ∧ Q (.bl (g o.isSome)) H)
  | _ => False
theorem op_inU (hu : X.A.units + 1 < cLine) : OpR X (compareOp .In) (rInU X.K id) := by
  intro pins s σ H x y v u Q I rx ry h
  unfold rInU at h
  split at h
  · rcases h with ⟨c, rfl, q⟩ | ⟨i, rfl, q⟩
    · exact op_in_sign pins s σ H _ _ v u Q I rx ry ⟨_, _, rfl, rfl, q⟩
    · exact op_in_str pins s σ H _ _ v u Q I rx ry ⟨_, _, rfl, rfl, q⟩
  · rcases h with ⟨xs, h1, h2, h3, q⟩ | ⟨o, g, q⟩
    · exact op_in_seq pins s σ H _ _ v u Q I rx ry ⟨_, xs, rfl, h1, h2, h3, q⟩
    · rename_i p
      obtain rfl : u = Value.ref p := ry
      exact d_in hu I g rx fun s3 I3 => ⟨.bl o.isSome, H, I3, rfl, q⟩
  · exact h.elim
theorem op_ninU (hu : X.A.units + 1 < cLine) : OpR X (compareOp .NotIn) (rInU X.K (!·)) := by
  intro pins s σ H x y v u Q I rx ry h
  unfold rInU at h
  split at h
  · rcases h with ⟨c, rfl, q⟩ | ⟨i, rfl, q⟩
    · exact op_notIn_sign pins s σ H _ _ v u Q I rx ry ⟨_, _, rfl, rfl, q⟩
    · exact op_notin_str pins s σ H _ _ v u Q I rx ry ⟨_, _, rfl, rfl, q⟩
  · rcases h with ⟨xs, h1, h2, h3, q⟩ | ⟨o, g, q⟩
    · exact op_notIn_seq pins s σ H _ _ v u Q I rx ry ⟨_, xs, rfl, h1, h2, h3, q⟩
    · rename_i p
      obtain rfl : u = Value.ref p := ry
      exact d_notIn hu I g rx fun s3 I3 => ⟨.bl (!o.isSome), H, I3, rfl, q⟩
  · exact h.elim
/-! ### calls -/
def rLenU (K : PySem.W.Frag) : List V → Hp → VK → Prop := fun xs H Q => match xs with
  | [.str z] => z.length ≤ sizeLine ∧ Q (.int z.length) H
  | [.ref p] => (∃ ys, (SqL K H p ys ∨ SqT K H p ys) ∧ Q (.int ys.length) H) ∨ ∃ kvs, H p = some (.dK kvs) ∧ Q (.int kvs.length) H
  | _ => False
theorem call_lenU : CallR X (.builtin "len") (rLenU X.K) := by
  intro pins s σ H xs us Q I r h
  unfold rLenU at h
  split at h
  · exact call_len_str pins s σ H _ us Q I r ⟨_, rfl, h.1, h.2⟩
  · rcases h with ⟨ys, h1, q⟩ | ⟨kvs, h1, q⟩
    · exact call_len_seq pins s σ H _ us Q I r ⟨_, ys, rfl, h1, q⟩
    · exact call_lenD pins s σ H _ us Q I r ⟨_, kvs, rfl, h1, q⟩
  · exact h.elim
def rIntU : List V → Hp → VK → Prop := fun xs H Q => match xs with
  | [.int i] => Q (.int i) H
  | [.bl k] => Q (.int (if k then 1 else 0)) H
  | [.str a] => ∃ n, PySem.intText? a = some n ∧ a.length ≤ 640 ∧ Q (.int n) H
  | _ => False
theorem call_intU : CallR X (.type "int") rIntU := by
  intro pins s σ H xs us Q I r h
  unfold rIntU at h
  split at h
  · exact call_int1 pins s σ H _ us Q I r (.inl ⟨_, rfl, h⟩)
  · exact call_int1 pins s σ H _ us Q I r (.inr ⟨_, rfl, h⟩)
  · obtain ⟨n, h1, h2, q⟩ := h
    exact call_int_str pins s σ H _ us Q I r ⟨_, n, rfl, h1, h2, q⟩
  · exact h.elim
def rStrU : List V → Hp → VK → Prop := fun xs H Q => match xs with
  | [.int i] => i.natAbs.log2 < 1920 ∧ Q (.str (toString i)) H
  | [.str a] => Q (.str a) H
  | _ => False
theorem call_strU : CallR X (.type "str") rStrU := by
  intro pins s σ H xs us Q I r h
  unfold rStrU at h
  split at h
  · exact call_str_int pins s σ H _ us Q I r ⟨_, rfl, h.1, h.2⟩
  · exact SkE.call_str_str pins s σ H _ us Q I r ⟨_, rfl, h⟩
  · exact h.elim
/-- isinstance: a built-in type or an own class -/
def rIsU2 (K : PySem.W.Frag) : List V → Hp → VK → Prop := fun xs H Q => ∃ (x c : V) (t u : Value) (b : Bool), xs = [x, c] ∧ ClsV c u ∧ TyX K H x t ∧ PySem.W.kitOne K t u = some b ∧ Q (.bl b) H
end
theorem hu64_of {A : Around} {k : Nat} (hr : Room k A) : A.units + 64 < cLine := by have := hr.un; omega
theorem ite_eq {c d : Bool} {A B : Prop} (e : c = d) (h : if d = true then A else B) : if c = true then A else B := by rw [e]; exact h
theorem iteD {c : Prop} [Decidable c] {A B : Prop} (h1 : c → A) (h2 : ¬ c → B) : if decide c = true then A else B := by
  by_cases h : c
  · rw [decide_eq_true h]; exact iteT (h1 h)
  · rw [decide_eq_false h]; exact iteF (h2 h)
theorem iteND {c : Prop} [Decidable c] {A B : Prop} (h1 : ¬ c → A) (h2 : c → B) : if (!decide c) = true then A else B := by
  by_cases h : c
  · rw [decide_eq_true h]; exact iteF (h2 h)
  · rw [decide_eq_false h]; exact iteT (h1 h)
/-- a text by its signs -/
abbrev T (l : List Nat) : Str := ⟨l.toArray⟩
theorem T_of (z : Str) : z = T z.cps.toList := rfl
theorem T_inj {a b : List Nat} (h : T a = T b) : a = b := congrArg (fun x : Str => x.cps.toList) h
theorem T_app (a b : List Nat) : T a ++ T b = T (a ++ b) := by
  show (⟨a.toArray ++ b.toArray⟩ : Str) = ⟨(a ++ b).toArray⟩
  simp
theorem T_dec (a b : List Nat) : decide (V.str (T a) = V.str (T b)) = decide (a = b) := by
  by_cases h : a = b
  · subst h; simp
  · have : ¬ V.str (T a) = V.str (T b) := fun z => h (T_inj (V.str.inj z))
    rw [decide_eq_false this, decide_eq_false h]
theorem I_dec (a b : Int) : decide (V.int a = V.int b) = decide (a = b) := by
  by_cases h : a = b
  · subst h; simp
  · have : ¬ V.int a = V.int b := fun z => h (V.int.inj z)
    rw [decide_eq_false this, decide_eq_false h]
theorem B_dec (a b : Bool) : decide (V.bl a = V.bl b) = (a == b) := by cases a <;> cases b <;> rfl
theorem pe_strT {X : Cx} {x : Str} {l : List Nat} {j : Nat} {pos : Pos} (e : x = T l) : PE X (.Constant (.str x) j pos) (tC (.str (T l))) := by subst e; exact pe_str
theorem pv_some {X : Cx} : True := True.intro
theorem bb_len : bootBuiltins "len" = some (.builtin "len") := by first | rfl | decide +kernel
theorem bb_isinstance : bootBuiltins "isinstance" = some (.builtin "isinstance") := by first | rfl | decide +kernel
theorem bb_abs : bootBuiltins "abs" = some (.builtin "abs") := by first | rfl | decide +kernel
theorem bb_sorted : bootBuiltins "sorted" = some (.builtin "sorted") := by first | rfl | decide +kernel
theorem bb_min : bootBuiltins "min" = some (.builtin "min") := by first | rfl | decide +kernel
theorem bb_max : bootBuiltins "max" = some (.builtin "max") := by first | rfl | decide +kernel
theorem bb_sum : bootBuiltins "sum" = some (.builtin "sum") := by first | rfl | decide +kernel
theorem bb_all : bootBuiltins "all" = some (.builtin "all") := by first | rfl | decide +kernel
theorem bb_any : bootBuiltins "any" = some (.builtin "any") := by first | rfl | decide +kernel
theorem bb_repr : bootBuiltins "repr" = some (.builtin "repr") := by first | rfl | decide +kernel
theorem bb_int : bootBuiltins "int" = some (.type "int") := by first | rfl | decide +kernel
theorem bb_str : bootBuiltins "str" = some (.type "str") := by first | rfl | decide +kernel
theorem bb_bool : bootBuiltins "bool" = some (.type "bool") := by first | rfl | decide +kernel
theorem bb_list : bootBuiltins "list" = some (.type "list") := by first | rfl | decide +kernel
theorem bb_dict : bootBuiltins "dict" = some (.type "dict") := by first | rfl | decide +kernel
theorem bb_tuple : bootBuiltins "tuple" = some (.type "tuple") := by first | rfl | decide +kernel
theorem bb_set : bootBuiltins "set" = some (.type "set") := by first | rfl | decide +kernel
theorem bb_ValueError : bootBuiltins "ValueError" = some (.type "ValueError") := by first | rfl | decide +kernel
theorem pe_gi {X : Cx} {x : Str} {z : Int} {t : Tok} {pos : Pos} (hg : Gl X x) (hm : X.mg x = some (.int z t)) (hd : (x == ("__debug__" : Str)) = false := by decide) : PE X (.Name x pos) (tC (.int z)) := pe_glob hg hm ⟨_, rfl⟩ hd
theorem pe_gs {X : Cx} {x : Str} {z : Str} {t : Tok} {pos : Pos} (hg : Gl X x) (hm : X.mg x = some (.str z t)) (hd : (x == ("__debug__" : Str)) = false := by decide) : PE X (.Name x pos) (tC (.str z)) := pe_glob hg hm ⟨_, rfl⟩ hd
theorem pe_gr {X : Cx} {x : Str} {a : Addr} {pos : Pos} (hg : Gl X x) (hm : X.mg x = some (.ref a)) (hd : (x == ("__debug__" : Str)) = false := by decide) : PE X (.Name x pos) (tC (.ref a)) := pe_glob hg hm rfl hd
theorem pe_bt {X : Cx} {x : Str} {n : String} {pos : Pos} (hg : Gl X x) (hm : X.mg x = none) (hv : bootBuiltins x = some (.type n)) (hn : x ≠ "__name__" := by decide) (hd : (x == ("__debug__" : Str)) = false := by decide) : PE X (.Name x pos) (tC (.ty n)) := pe_bltn hg hm hv rfl hn hd
/-! isinstance against built-in types -/
theorem kt_int_int {K : PySem.W.Frag} : PySem.W.kitOne K (.type "int") (.type "int") = some true := kit_ty (by decide +kernel)
theorem kt_int_bool {K : PySem.W.Frag} : PySem.W.kitOne K (.type "int") (.type "bool") = some false := kit_ty (by decide +kernel)
theorem kt_int_str {K : PySem.W.Frag} : PySem.W.kitOne K (.type "int") (.type "str") = some false := kit_ty (by decide +kernel)
theorem kt_int_list {K : PySem.W.Frag} : PySem.W.kitOne K (.type "int") (.type "list") = some false := kit_ty (by decide +kernel)
theorem kt_int_tuple {K : PySem.W.Frag} : PySem.W.kitOne K (.type "int") (.type "tuple") = some false := kit_ty (by decide +kernel)
theorem kt_int_dict {K : PySem.W.Frag} : PySem.W.kitOne K (.type "int") (.type "dict") = some false := kit_ty (by decide +kernel)
theorem kt_bool_int {K : PySem.W.Frag} : PySem.W.kitOne K (.type "bool") (.type "int") = some true := kit_ty (by decide +kernel)
theorem kt_bool_bool {K : PySem.W.Frag} : PySem.W.kitOne K (.type "bool") (.type "bool") = some true := kit_ty (by decide +kernel)
theorem kt_bool_str {K : PySem.W.Frag} : PySem.W.kitOne K (.type "bool") (.type "str") = some false := kit_ty (by decide +kernel)
theorem kt_bool_list {K : PySem.W.Frag} : PySem.W.kitOne K (.type "bool") (.type "list") = some false := kit_ty (by decide +kernel)
theorem kt_bool_tuple {K : PySem.W.Frag} : PySem.W.kitOne K (.type "bool") (.type "tuple") = some false := kit_ty (by decide +kernel)
theorem kt_bool_dict {K : PySem.W.Frag} : PySem.W.kitOne K (.type "bool") (.type "dict") = some false := kit_ty (by decide +kernel)
theorem kt_str_int {K : PySem.W.Frag} : PySem.W.kitOne K (.type "str") (.type "int") = some false := kit_ty (by decide +kernel)
theorem kt_str_bool {K : PySem.W.Frag} : PySem.W.kitOne K (.type "str") (.type "bool") = some false := kit_ty (by decide +kernel)
theorem kt_str_str {K : PySem.W.Frag} : PySem.W.kitOne K (.type "str") (.type "str") = some true := kit_ty (by decide +kernel)
theorem kt_str_list {K : PySem.W.Frag} : PySem.W.kitOne K (.type "str") (.type "list") = some false := kit_ty (by decide +kernel)
theorem kt_str_tuple {K : PySem.W.Frag} : PySem.W.kitOne K (.type "str") (.type "tuple") = some false := kit_ty (by decide +kernel)
theorem kt_str_dict {K : PySem.W.Frag} : PySem.W.kitOne K (.type "str") (.type "dict") = some false := kit_ty (by decide +kernel)
theorem kt_list_int {K : PySem.W.Frag} : PySem.W.kitOne K (.type "list") (.type "int") = some false := kit_ty (by decide +kernel)
theorem kt_list_bool {K : PySem.W.Frag} : PySem.W.kitOne K (.type "list") (.type "bool") = some false := kit_ty (by decide +kernel)
theorem kt_list_str {K : PySem.W.Frag} : PySem.W.kitOne K (.type "list") (.type "str") = some false := kit_ty (by decide +kernel)
theorem kt_list_list {K : PySem.W.Frag} : PySem.W.kitOne K (.type "list") (.type "list") = some true := kit_ty (by decide +kernel)
theorem kt_list_tuple {K : PySem.W.Frag} : PySem.W.kitOne K (.type "list") (.type "tuple") = some false := kit_ty (by decide +kernel)
theorem kt_list_dict {K : PySem.W.Frag} : PySem.W.kitOne K (.type "list") (.type "dict") = some false := kit_ty (by decide +kernel)
theorem kt_tuple_int {K : PySem.W.Frag} : PySem.W.kitOne K (.type "tuple") (.type "int") = some false := kit_ty (by decide +kernel)
theorem kt_tuple_bool {K : PySem.W.Frag} : PySem.W.kitOne K (.type "tuple") (.type "bool") = some false := kit_ty (by decide +kernel)
theorem kt_tuple_str {K : PySem.W.Frag} : PySem.W.kitOne K (.type "tuple") (.type "str") = some false := kit_ty (by decide +kernel)
theorem kt_tuple_list {K : PySem.W.Frag} : PySem.W.kitOne K (.type "tuple") (.type "list") = some false := kit_ty (by decide +kernel)
theorem kt_tuple_tuple {K : PySem.W.Frag} : PySem.W.kitOne K (.type "tuple") (.type "tuple") = some true := kit_ty (by decide +kernel)
theorem kt_tuple_dict {K : PySem.W.Frag} : PySem.W.kitOne K (.type "tuple") (.type "dict") = some false := kit_ty (by decide +kernel)
theorem kt_dict_int {K : PySem.W.Frag} : PySem.W.kitOne K (.type "dict") (.type "int") = some false := kit_ty (by decide +kernel)
theorem kt_dict_bool {K : PySem.W.Frag} : PySem.W.kitOne K (.type "dict") (.type "bool") = some false := kit_ty (by decide +kernel)
theorem kt_dict_str {K : PySem.W.Frag} : PySem.W.kitOne K (.type "dict") (.type "str") = some false := kit_ty (by decide +kernel)
theorem kt_dict_list {K : PySem.W.Frag} : PySem.W.kitOne K (.type "dict") (.type "list") = some false := kit_ty (by decide +kernel)
theorem kt_dict_tuple {K : PySem.W.Frag} : PySem.W.kitOne K (.type "dict") (.type "tuple") = some false := kit_ty (by decide +kernel)
theorem kt_dict_dict {K : PySem.W.Frag} : PySem.W.kitOne K (.type "dict") (.type "dict") = some true := kit_ty (by decide +kernel)
theorem kt_NoneType_int {K : PySem.W.Frag} : PySem.W.kitOne K (.type "NoneType") (.type "int") = some false := kit_ty (by decide +kernel)
theorem kt_NoneType_bool {K : PySem.W.Frag} : PySem.W.kitOne K (.type "NoneType") (.type "bool") = some false := kit_ty (by decide +kernel)
theorem kt_NoneType_str {K : PySem.W.Frag} : PySem.W.kitOne K (.type "NoneType") (.type "str") = some false := kit_ty (by decide +kernel)
theorem kt_NoneType_list {K : PySem.W.Frag} : PySem.W.kitOne K (.type "NoneType") (.type "list") = some false := kit_ty (by decide +kernel)
theorem kt_NoneType_tuple {K : PySem.W.Frag} : PySem.W.kitOne K (.type "NoneType") (.type "tuple") = some false := kit_ty (by decide +kernel)
theorem kt_NoneType_dict {K : PySem.W.Frag} : PySem.W.kitOne K (.type "NoneType") (.type "dict") = some false := kit_ty (by decide +kernel)
end LX
/-! sorted(x) of a list of whole numbers or of a dict with such keys, any number of them -/
namespace LX
open PySem PySem.Spec PyProof.Rows L2
section
variable {X : Cx}
theorem call_sortedDA (hcalm : X.calm = true) : CallR X (.builtin "sorted") (fun xs H Q => ∃ (a : Addr) (kvs : List (Key × V)) (ks : List Int), xs = [.ref a] ∧ Rd H a (.dK kvs) ∧ kvs.map (·.1) = ks.map Sum.inl ∧
    ∀ (ys : List Int) (p : Addr), ys.Perm ks → ys.Pairwise (· ≤ ·) → H p = none → Q (.ref p) (upd H p (.lst (ys.map V.int)))) := by
  intro pins s σ H xs us Q I r q
  obtain ⟨a, kvs, ks, ex, hd, hks, q⟩ := q
  subst ex
  obtain ⟨u, eu, rx⟩ := vals1 r
  subst eu
  cases rx
  obtain ⟨z, lo, vs, rel, dd⟩ := dk_rd I.hok hd
  obtain ⟨ep, hat⟩ := dd.dictAt
  have hkeys : vs.map (·.1) = ks.map Sum.inl := rel.keys.symm.trans hks
  have hl : vs.length = ks.length := by
    have e := congrArg List.length hkeys
    rw [List.length_map, List.length_map] at e
    exact e
  have hkl : ks.length ≤ sizeLine := by
    have e := congrArg List.length hks
    rw [List.length_map, List.length_map] at e
    omega
  have h16 : vs.length ≤ sizeLine := by rw [hl]; exact hkl
  refine Calls.call_function_entry PyProof.Rows.kind_sorted PyProof.Rows.plain_sorted PyProof.Rows.entry_sorted (PyProof.Rows.args_sorted1 _) ?_
  unfold Builtin.«sorted»
  refine wpAny_bind (m := checkCount "sorted" 1 1 _) (wpAny_pure ?_)
  refine wpAny_bind (PySem.W.kdu_collect (A := X.A.in1) (PySem.W.kdl_dict (knd := mixKind X.prog X.w) (kvs := vs) (ep := ep) lo) (I.ok.hd hcalm) hat h16 fun h' tk acc hk hacc => ?_)
  have hal : acc.toList.length = ks.length := by rw [Array.length_toList, hacc.1, hl]
  have hS : IntsAre acc.toList ks := ints_each hal fun j v e => by
    obtain ⟨k, x, e1, e2⟩ := hacc.2 j v (by rw [← Array.getElem?_toList]; exact e)
    have e3 : (vs.map (·.1))[j]? = some k := by rw [List.getElem?_map, e1]; rfl
    rw [hkeys, List.getElem?_map] at e3
    cases e4 : ks[j]? with
    | none => rw [e4] at e3; cases e3
    | some y =>
      rw [e4] at e3
      have e5 : Sum.inl y = k := Option.some.inj e3
      subst e5
      rcases keyIs_shape (show keyIs (Sum.inl y) v = true from e2) with ⟨i, t, ek, ev⟩ | ⟨z, t, ek, ev⟩
      · cases ek
        exact ⟨y, t, rfl, ev⟩
      · cases ek
  have I1 : Inv X pins σ H { s with heap := h', toks := tk } := I.kept hk
  refine wpAny_bind (wpAny_newList ?_ (by rw [hal]; exact hkl))
  have hoL : (h'.push (seqObj "list" acc.toList.toArray 0)).get? h'.objs.size = some (seqObj "list" acc.toList.toArray 0) := Heap.get?_push_size _ rfl
  show wpAny _ _ _ _ _ { s with heap := h'.push (seqObj "list" acc.toList.toArray 0), toks := tk }
  refine wpAny_bind (wpAny_holding (wpAny_call_entry PyProof.Rows.slot_list_sort ⟨_, hoL, rfl⟩ PyProof.Rows.entry_list_sort
    (SrtO.list_sort_ord (s := { s with heap := h'.push (seqObj "list" acc.toList.toArray 0), toks := tk }) SrtO.swo_int hoL (by rw [hal]; exact hkl) (fun h2 => SrtO.ints_sortable hS h2) fun out h1 h2 => ⟨.none, rfl, ?_⟩) (PyProof.Rows.args_list_sort _)))
  obtain ⟨k1, k2, k3⟩ := SrtO.ints_out hS h1 h2
  obtain ⟨e', he'⟩ := PyProof.Rows.sortedHeap_at (vs := acc.toList) (out := out.toArray) hoL
  have hlen : ((out.map SrtO.iv).map V.int).length ≤ sizeLine := by
    rw [List.length_map, k2.length_eq]
    exact hkl
  refine wpAny_pure ⟨_, rfl, .ref h'.objs.size, upd H h'.objs.size (.lst ((out.map SrtO.iv).map V.int)), I1.laid (t' := tk) (fun b u e => ?_) (Nat.le_refl _)
    (show ObjOk X.prog X.w _ _ _ (.lst ((out.map SrtO.iv).map V.int)) from ⟨hlen, out, e', vals_of_ints k1, he'⟩), rfl, q _ _ k2 k3 (I1.hok.fresh (Nat.le_refl _))⟩
  have hb : b < h'.objs.size := Heap.lt_size e
  rw [PyProof.Rows.sortedHeap_old (Nat.ne_of_lt hb) (by rw [size_push']; exact Nat.lt_succ_of_lt hb)]
  exact Heap.get?_push_of_some _ e
def rSortedU (K : PySem.W.Frag) : List V → Hp → VK → Prop := fun vs H Q => ∃ (a : Addr) (ns : List Int), vs = [V.ref a] ∧ (SqL K H a (ns.map V.int) ∨ ∃ kvs : List (Key × V), Rd H a (.dK kvs) ∧ kvs.map (·.1) = ns.map Sum.inl) ∧
  ∀ (ns' : List Int) (p : Addr), ns'.Perm ns → ns'.Pairwise (· ≤ ·) → H p = none → Q (.ref p) (upd H p (.lst (ns'.map V.int)))
theorem call_sortedU (hcalm : X.calm = true) : CallR X (.builtin "sorted") (rSortedU X.K) := by
  intro pins s σ H xs us Q I r h
  obtain ⟨a, ns, rfl, h1 | ⟨kvs, h1, h2⟩, q⟩ := h
  · exact cr_sortedI pins s σ H _ us Q I r ⟨a, ns, rfl, h1, q⟩
  · exact call_sortedDA hcalm pins s σ H _ us Q I r ⟨a, kvs, ns, rfl, h1, h2, q⟩
end
end LX
/-! the rules of LBase with the law's own K, for the parts of a comprehension -/
namespace LX
open PySem PySem.Spec PyProof.Rows L2
section
variable {X : Cx} {K : PySem.W.Frag}
theorem ix_UK (e : X.K = K) (hu : X.A.units + 1 < cLine) : IxR X (rIxU K) := by subst e; exact ix_U hu
theorem op_addUK (e : X.K = K) : OpR X (binaryOp .Add) (rAddU K) := by subst e; exact op_addU
theorem op_eqUK (e : X.K = K) (hu : X.A.units + 64 < cLine) : OpR X (compareOp .Eq) (rEqU K id) := by subst e; exact op_eqU hu
theorem op_neUK (e : X.K = K) (hu : X.A.units + 64 < cLine) : OpR X (compareOp .NotEq) (rEqU K (!·)) := by subst e; exact op_neU hu
theorem op_inUK (e : X.K = K) (hu : X.A.units + 1 < cLine) : OpR X (compareOp .In) (rInU K id) := by subst e; exact op_inU hu
theorem op_ninUK (e : X.K = K) (hu : X.A.units + 1 < cLine) : OpR X (compareOp .NotIn) (rInU K (!·)) := by subst e; exact op_ninU hu
theorem sl_UK (e : X.K = K) : SlR X (rSlU K) := by subst e; exact sl_U
theorem call_lenUK (e : X.K = K) : CallR X (.builtin "len") (rLenU K) := by subst e; exact call_lenU
theorem pe_fldK {o : Expr} {f : Str} {pos : Pos} {ta : TE} (e : X.K = K) (he : PE X o ta) (hb : attributeBase o f X.env (eval o X.env) = eval o X.env) : PE X (.Attribute o f pos) (tFld K ta f) := by subst e; exact pe_fld he hb
def tTruK (K : PySem.W.Frag) (ta : TE) : TT := fun σ H Q => ta σ H fun x H' => ∃ k, TruV K x H' k ∧ Q k H'
theorem pt_truthK {a : Expr} {ta : TE} (e : X.K = K) (ha : PE X a ta) (he : ∀ whole, isTrue a X.env whole = (do let v ← whole; standAt a.pos; holding [v] (truthy v))) :
    PT X a (tTruK K ta) := by subst e; exact pt_truth ha he
end
end LX
/-! own exceptions over ValueError whose __init__ begins with super().__init__(..) -/
namespace LX
open PySem PySem.Spec PyProof.Rows L2 NdefX PySem.W PySem.HandSPX

/-- what the written part says of the class at C and of its __init__ at f -/
structure SupTxt (P : Program) (K : Frag) (mg : Str → Option Value) (C : Addr) (cda cc : Addr) (scope : Scope) : Prop where
  ox : OexC K C
  code : ∃ (ccl : Value) (cdd : Option Addr) (vs : Array Value) (ccs : Array (Option Value)) (file : Str) (tf : Tok), K.lookup cda = some ⟨ccl, cdd, .fields vs, ccs⟩ ∧ vs[2]? = some (.str file tf) ∧ ((P.main.file : Str) == file) = true
  cell : ∃ (cl : Value) (cld : Option Addr) (csl : Array (Option Value)), K.lookup cc = some ⟨cl, cld, .cell (some (.ref C)), csl⟩
  cls : ∃ cdC, clsIn K C = some cdC
  sub : mroIn K C (.ref C) = some true
  init : ks_superIn K C C "__init__" = some (some (.builtin "ValueError.__init__"))
  isB : subIn K (.ref C) (.type "ValueError") = some true
  third : nsIn K cStatics "thirdparty.any" = some none
  mgS : mg "super" = none
  hks : scope.names.lookup ("super" : Str) = some .globalImplicit
  hkc : scope.names.lookup ("__class__" : Str) = some .free
  htop : (P.main.scope.names.lookup ("super" : Str)).isSome = false

section
variable {prog : Program} {w : World} {M : Model} {A : Around} {E : Value → Shared → Prop} {s : Shared} {i : String} {x u : Addr}
theorem mw_callWith {pos : Pos} {first : List Value} {args : List (Bool × Sem Value)} {Q : Value → Shared → Prop} (hplain : args.any (·.1) = false)
    (h : wpAny M A (evalArgs (.ref u) true args []) (fun ar s₁ => s₁.heap.get? u = some (kxs_mw i x) ∧ wpAny M A (call (.ref u) (first ++ ar.pos) ar.kw) Q E s₁) E s) : wpAny M A (callWith pos (.ref u) first args []) Q E s :=
  kxs_callWith (i := i) (x := x) hplain h
theorem mw_call {t0 C : Addr} {rest : List Value} {nm q : Str} {N : Addr} {bs bm : List Value} {hdct : Bool} {sn : List Str} {sub : List Value} {ab : Bool} {col : Option Bool} {dd : Option Addr} {k0 k1 k2 k3 k5 : Option Value} {h : Heap} {g : Array GenState} {d : Drawn} {t : Nat} {os : OsState} {Q : Value → Shared → Prop}
    (hC : h.get? C = some (excClassObj nm q C N bs bm hdct sn sub ab col dd k0 k1 k2 k3 k5 "ValueError.__new__")) (he : h.get? x = some (excO C t0)) (hu : h.get? u = some (kxs_mw "ValueError.__init__" x)) (hrest : rest.length ≤ sizeLine)
    (hq : ∀ h' t1, (∀ b o, b ≠ x → h.get? b = some o → h'.get? b = some o) → h'.get? x = some (excO C t1) → Q .none ⟨h', g, d, t, os⟩) :
    wpAny (model prog w) A (call (.ref u) rest) Q E ⟨h, g, d, t, os⟩ := by
  refine wpAny_call (codeAny_of_tree ?_)
  show wpAny _ A.in1 (callAny (.ref u) ⟨rest, []⟩) _ _ _
  simp only [callAny]
  refine wpAny_bind (wpAny_load hu ?_)
  simp only [kxs_mw, show (Value.type "method-wrapper" == Value.type "method" || Value.type "method-wrapper" == Value.type "builtin_function_or_method" || Value.type "method-wrapper" == Value.type "method-wrapper") = true by decide, if_true]
  refine KFB.if_so (by decide) ?_
  refine wpAny_bind (check_bound_init F.excBase_ValueError.toExcCallFacts hC he rfl ?_)
  refine wpAny_bind (wpAny_pure (wpAny_pure ?_))
  refine ⟨plainId_quiet F.excBase_ValueError.init.plain _, codeAny_builtin F.excBase_ValueError.initEntry ?_⟩
  rw [Around.under_plainId F.excBase_ValueError.init.plain _]
  wp_walk
  refine hq _ h.objs.size (fun b o hb ho => ?_) ?_
  · rw [Heap.get?_update_other _ _ (Ne.symm hb)]
    exact Heap.get?_push_of_some _ ho
  · rw [Heap.get?_update_self _ (Heap.get?_push_of_some _ he) rfl]
    rfl
end

/-- the reading of super().__init__(e, ..) as the first statement of C's own __init__, self in slot 0 -/
def tSup (C : Addr) (ta : TA) : TS := fun D σ H => ∃ a : Addr, σ[0]? = some (some (.ref a)) ∧ H a = some (exo a C none) ∧ ta σ H fun vs H1 => vs.length ≤ sizeLine ∧ H1 a = some (exo a C none) ∧ D.nx σ H1

section
variable {P : Program} {w : World} {K : PySem.W.Frag} {mg : Str → Option Value} {base : Heap}
theorem fn_sup {CX : CXT} {k : Nat} {f : Addr} {name qual : Str} {params : Arguments} {scope : Scope} {dV kV doc pm ct oc : Value} {cda cc C : Addr} {an od : Option Addr} {osl : Array (Option Value)} {N ps : List Str} {sp : Sp}
    {p0 p1 p2 p3 p4 : Pos} {e : Expr} {es : List Expr} {rest : List Stmt} {ar : Arg}
    (lk : K.lookup f = some ⟨oc, od, .func (PySem.W.fnX name qual params (.Expr (.Call (.Attribute (.Call (.Name "super" p0) [] [] p1) "__init__" p2) (e :: es) [] p3) p4 :: rest) scope [("__class__", cc)] dV kV doc pm an (.ref cda) ct), osl⟩)
    (hcd : PySem.W.codeIn K (.ref cda) qual = true) (S : NScope N ps ["__class__"] scope) (T : SupTxt P K mg C cda cc scope) (hp : (params.posonlyargs ++ params.args).head? = some ar) (hp0 : ps[0]? = some ar.arg)
    {pl : Env → Sem Bool}
    (hev : ∀ L, eval (.Call (.Attribute (.Call (.Name "super" p0) [] [] p1) "__init__" p2) (e :: es) [] p3) (envX qual scope L f (.ref cda) [("__class__", cc)]) = (do
      let ov ← attributeBase (.Call (.Name "super" p0) [] [] p1) "__init__" (envX qual scope L f (.ref cda) [("__class__", cc)]) (eval (.Call (.Name "super" p0) [] [] p1) (envX qual scope L f (.ref cda) [("__class__", cc)]))
      standAt p2.atName
      let (f', first) ← holding [ov] (getMethod ov "__init__" (pl (envX qual scope L f (.ref cda) [("__class__", cc)])))
      callWith p3 f' first (backTo p3 (starEach (e :: es) (envX qual scope L f (.ref cda) [("__class__", cc)]))) []))
    (hst : ∀ env, starEach (e :: es) env = (false, eval e env) :: starEach es env) (hplain : ∀ env, (backTo p3 (starEach es env)).any (·.1) = false)
    (hint : ∀ L, interactive (envX qual scope L f (.ref cda) [("__class__", cc)]) = false) (hsw : ∀ L, swapsWith (.Call (.Attribute (.Call (.Name "super" p0) [] [] p1) "__init__" p2) (e :: es) [] p3) none p4.line (envX qual scope L f (.ref cda) [("__class__", cc)]) = pure false)
    (len : ∀ vs H Q E, sp vs H Q E → vs.length = ps.length)
    (hbody : ∀ (A : Around) (outer : List Env) (s : Shared) (H : Hp) (vs : List V) (Q : VK) (E : XK), Room k (A.deeper (envX qual scope s.heap.objs.size f (.ref cda) [("__class__", cc)])) → sp vs H Q E →
      ∃ ta t, PA (ncx CX P w K mg base N ⟨name, qual, params, .Expr (.Call (.Attribute (.Call (.Name "super" p0) [] [] p1) "__init__" p2) (e :: es) [] p3) p4 :: rest, scope, [("__class__", cc)], cda⟩ f A outer s H E) (e :: es) ta ∧
        PSs (ncx CX P w K mg base N ⟨name, qual, params, .Expr (.Call (.Attribute (.Call (.Name "super" p0) [] [] p1) "__init__" p2) (e :: es) [] p3) p4 :: rest, scope, [("__class__", cc)], cda⟩ f A outer s H E) rest t ∧
        tSeq (tSup C ta) t { nx := fun _ H' => Q .non H', rt := Q } (startF N vs [some (.ref C)]) H) :
    FnOk P w K mg base CX (k + 1) f (PySem.W.fnX name qual params (.Expr (.Call (.Attribute (.Call (.Name "super" p0) [] [] p1) "__init__" p2) (e :: es) [] p3) p4 :: rest) scope [("__class__", cc)] dV kV doc pm an (.ref cda) ct) ps sp := by
  refine ⟨len, fun A outer s H args us vs Q E hr e0 hb r hsp => ?_⟩
  have hl := len _ _ _ _ hsp
  have KX : K.In s.heap := e0.mod.kin.keeps fun b o e => (e0.bs b o e).1
  have lim : s.heap.NoLimit := e0.mod.nolimit.keeps fun b o e => (e0.bs b o e).1
  obtain ⟨cl, cld, csl, hcell⟩ := T.cell
  have CA : CellsAt [(("__class__" : Str), cc)] ["__class__"] [some (.ref C)] s.heap H := by
    have hcc : s.heap.get? cc = some ⟨cl, cld, .cell (some (.ref C)), csl⟩ := KX _ _ hcell
    have hn : H cc = none := (e0.bs cc _ (e0.mod.kin _ _ hcell)).2
    refine ⟨rfl, fun y c h => ?_, fun y z c h1 h2 => ?_, fun j y h => ?_⟩
    · have : y = "__class__" ∧ c = cc := by
        simp only [List.lookup] at h
        split at h
        · rename_i q
          exact ⟨by simpa using q, (Option.some.inj h).symm⟩
        · cases h
      obtain ⟨rfl, rfl⟩ := this
      exact ⟨hn, _, _, hcc, rfl⟩
    · have key : ∀ {y : Str}, List.lookup y [(("__class__" : Str), cc)] = some c → y = "__class__" := fun {y} h => by
        simp only [List.lookup] at h
        split at h
        · rename_i q
          simpa using q
        · cases h
      rw [key h1, key h2]
    · cases j with
      | zero =>
        have : y = "__class__" := (Option.some.inj h).symm
        subst this
        refine ⟨cc, by simp [List.lookup], fun v hv => ?_⟩
        have : v = .ref C := by simpa using hv.symm
        subst this
        exact ⟨.ref C, rfl, _, hcc, rfl⟩
      | succ j => simp at h
  refine ks_codeAny_call_defAt (binds := ps.zip us) hr.depth (KX _ _ lk) rfl lim (codeRec_of KX hcd) rfl hb S.nocell (fun x hx => S.par x.1 (List.of_mem_zip hx).1) (fun h₁ hns kp => ?_) S.co S.gen S.kind
  obtain ⟨ta, t, hta, ht, hq⟩ := hbody A outer s H vs Q E (hr.deeper _) hsp
  obtain ⟨a, hσ, hea, hq⟩ := hq
  have I : Inv (ncx CX P w K mg base N ⟨name, qual, params, .Expr (.Call (.Attribute (.Call (.Name "super" p0) [] [] p1) "__init__" p2) (e :: es) [] p3) p4 :: rest, scope, [("__class__", cc)], cda⟩ f A outer s H E) [] (startF N vs [some (.ref C)]) H { s with heap := h₁, toks := s.toks + (ps.zip us).length } :=
    inv_startN (F := ⟨name, qual, params, .Expr (.Call (.Attribute (.Call (.Name "super" p0) [] [] p1) "__init__" p2) (e :: es) [] p3) p4 :: rest, scope, [("__class__", cc)], cda⟩) S hr.hd e0 hl r CA hns kp
  generalize hX : ncx CX P w K mg base N ⟨name, qual, params, .Expr (.Call (.Attribute (.Call (.Name "super" p0) [] [] p1) "__init__" p2) (e :: es) [] p3) p4 :: rest, scope, [("__class__", cc)], cda⟩ f A outer s H E = X at hta ht I
  have eK : X.K = K := by rw [← hX]; rfl
  have eP : X.prog = P := by rw [← hX]; rfl
  have ew : X.w = w := by rw [← hX]; rfl
  have emg : X.mg = mg := by rw [← hX]; rfl
  have eN : X.N = N := by rw [← hX]; rfl
  have eenv : X.env = envX qual scope s.heap.objs.size f (.ref cda) [("__class__", cc)] := by rw [← hX]; rfl
  have eA : X.A = A.deeper X.env := by rw [← hX]; rfl
  have exe : X.xe = fun e s' => wpAny (model P w) (A.deeper (envX qual scope s.heap.objs.size f (.ref cda) [("__class__", cc)])) (leaving (envX qual scope s.heap.objs.size f (.ref cda) [("__class__", cc)]) e) (fun _ s'' => CX outer H s E e s'') (fun e' s'' => CX outer H s E e' s'') s' := by rw [← hX]; rfl
  have fin : ∀ {s' : Shared} {σ' : L2.St} {H' : Hp} {v : V} {u : Value}, Inv X [] σ' H' s' → L2.RelV v u → Q v H' → CE outer P w H s Q u s' :=
    fun {s' σ' H' v u} J rv q => by
      subst hX
      exact ⟨v, H', J.os, J.bare, J.base, J.hok, rv, q⟩
  show PySem.wpAt (model P w) (A.deeper (envX qual scope s.heap.objs.size f (.ref cda) [("__class__", cc)])) (.func (.Expr (.Call (.Attribute (.Call (.Name "super" p0) [] [] p1) "__init__" p2) (e :: es) [] p3) p4 :: rest) (envX qual scope s.heap.objs.size f (.ref cda) [("__class__", cc)]))
    (execs (.Expr (.Call (.Attribute (.Call (.Name "super" p0) [] [] p1) "__init__" p2) (e :: es) [] p3) p4 :: rest) (envX qual scope s.heap.objs.size f (.ref cda) [("__class__", cc)])) _ _ _
  rw [← eenv, ← eA]
  have eM : model P w = model X.prog X.w := by rw [eP, ew]
  rw [eM]
  refine ks_wpAt_mono (Q := SP X [] { nx := fun _ H' => Q .non H', rt := Q }) (E := X.xe) ?_ (fun fl s' hs => ?_) (fun e s' hs => ?_)
  · refine ks_wpAt_execs_cons (ks_wpAt_Expr_any (ks_wpAt_MethodCall ?_ (by rw [eenv]; exact hev _)) (by rw [eenv]; exact hint _) (by rw [eenv]; exact hsw _))
    -- super()
    obtain ⟨ccl, cdd, cvs, ccs, file, tf, hcode, hvs, hfile⟩ := T.code
    obtain ⟨cdC, hcl⟩ := T.cls
    obtain ⟨t1, ho⟩ := exo_at I.hok hea
    have XK : K.In h₁ := by have := I.kIn; rw [eK] at this; exact this
    obtain ⟨oD, hD1, hD2⟩ : ∃ oD, h₁.get? C = some oD ∧ oD.data = .cls cdC := by
      unfold clsIn at hcl
      split at hcl
      · rename_i c d cd' sl ho
        cases hcl
        exact ⟨_, XK _ _ ho, rfl⟩
      · cases hcl
    have hN0 : X.N[0]? = some ar.arg := by
      rw [eN]
      have z := congrArg (fun l => l[0]?) S.pre
      rw [List.getElem?_take_of_lt (by simp)] at z
      rw [z, List.getElem?_append_left (by obtain ⟨h0, _⟩ := List.getElem?_eq_some_iff.mp hp0; exact h0), hp0]
    have harl : scope.names.lookup ar.arg = some .local := S.par _ (List.mem_of_getElem? hp0)
    obtain ⟨m, hn, hlk⟩ := I.loc
    obtain ⟨u0, ru0, lo0⟩ := hlk 0 ar.arg (.ref a) hN0 hσ (by rw [eenv]; exact Or.inl harl)
    obtain rfl : u0 = Value.ref a := ru0
    have hm0 : m ar.arg = some (.ref a) := by
      rcases lo0 with ⟨_, z⟩ | ⟨z, _⟩
      · exact z
      · exfalso
        have z' : scope.names.lookup ar.arg = some .cell ∨ scope.names.lookup ar.arg = some .free := by rw [eenv] at z; exact z
        rw [harl] at z'
        rcases z' with z' | z' <;> cases z'
    have hkind : X.env.scope.kind = .function := I.ok.kind
    have hks : X.env.kindOf "super" = some .globalImplicit := by rw [eenv]; exact T.hks
    have hkc : X.env.kindOf "__class__" = some .free := by rw [eenv]; exact T.hkc
    have hka : X.env.kindOf ar.arg = some .local := by rw [eenv]; exact harl
    refine ks_wpAt_super_base (of := ⟨oc, od, .func (PySem.W.fnX name qual params (.Expr (.Call (.Attribute (.Call (.Name "super" p0) [] [] p1) "__init__" p2) (e :: es) [] p3) p4 :: rest) scope [("__class__", cc)] dV kV doc pm an (.ref cda) ct), osl⟩) (f := f) (cc := cda) hks hkc (by decide) (by rw [eenv]) (XK _ _ lk) rfl hp (by rw [eenv]) (XK _ _ hcode) rfl hvs (by rw [eP]; exact hfile) (by rw [eP]; exact T.htop) ?_
    obtain ⟨mb, hmb1, hmb2⟩ := I.mod.blt
    refine ks_loadName_global hkind hks (Calls.loadGlobal_builtin (by rw [I.ok.glob]; exact I.mod.glob.keeps I.bk) (by rw [emg]; exact T.mgS) (by rw [I.ok.blt]; exact hmb1.keeps I.bk) ((hmb2 _ (by decide)).trans PyProof.Rows.Boot.super) ⟨rfl, ?_⟩)
    refine wpAny_loadName_free (c := cc) hkind hkc (by rw [eenv]; simp [List.lookup]) ⟨_, XK _ _ hcell, rfl⟩ ?_
    refine wpAny_loadName_local hkind hka hn hm0 ?_
    refine ks_wpAny_isType_cls hD1 hD2 ⟨rfl, ?_⟩
    refine ks_wpAny_call_super (C := C) hD1 hD2 ho rfl (fun c z => by cases z) (looks_mroIn XK T.sub) (fun h2 e2 k2 => ?_)
    have I2 : Inv X [] (startF N vs [some (.ref C)]) H { s with heap := h2, toks := s.toks + (ps.zip us).length } := I.kept (t' := s.toks + (ps.zip us).length) k2
    have XK2 : K.In h2 := XK.keeps k2
    have hx2 := k2 _ _ ho
    have II : PySem.W.InstAt h2 a ({ cls := .ref C, dict := none, data := .fields #[.ref t1, .none, .none, .none, .bool false, .none] } : Obj) C none := ⟨hx2, rfl, rfl, trivial⟩
    have hsup := T.init
    unfold ks_superIn at hsup
    rw [hcl] at hsup
    refine kxs_getMethod kxs_ValueError e2 (looks_opaque XK2 T.third) (l₀ := cdC.mro) (fun A Q E s k q => wpAny_bind ((looks_clsIn XK2 hcl) A _ E s k (wpAny_pure q))) rfl XK2 hsup (II.type.andThen (looks_subIn XK2 T.isB)) (ks_ne XK2 II hcl) (by decide) ?_
    -- the wrapper stands, pinned
    have k3 : ∀ b o, h2.get? b = some o → (h2.push (kxs_mw "ValueError.__init__" a)).get? b = some o := fun b o q => Heap.get?_push_of_some _ q
    have I3 : Inv X [] (startF N vs [some (.ref C)]) H { s with heap := h2.push (kxs_mw "ValueError.__init__" a), toks := s.toks + (ps.zip us).length + 1 } := I2.kept (t' := s.toks + (ps.zip us).length + 1) k3
    have hmw : (h2.push (kxs_mw "ValueError.__init__" a)).get? h2.objs.size = some (kxs_mw "ValueError.__init__" a) := Heap.get?_push_at rfl rfl
    have I4 : Inv X [(h2.objs.size, kxs_mw "ValueError.__init__" a)] (startF N vs [some (.ref C)]) H { s with heap := h2.push (kxs_mw "ValueError.__init__" a), toks := s.toks + (ps.zip us).length + 1 } := by
      refine I3.pins_of fun p hp => ?_
      obtain rfl : p = (h2.objs.size, kxs_mw "ValueError.__init__" a) := by simpa using hp
      exact ⟨hmw, I2.hok.fresh (Nat.le_refl _), Nat.ne_of_gt I2.lt, I2.nofs (Nat.le_refl _), fun v z => by cases z⟩
    have hargs := hta.run p3 _ _ _ _ _ I4 hq
    have hst' := hst X.env
    rw [hst'] at hargs ⊢
    refine kxs_callWith (i := "ValueError.__init__") (x := a) (by show (false || (backTo p3 (starEach es X.env)).any (·.1)) = false; rw [hplain]; rfl) (PySem.Calls.evalArgs_plain (thn hargs fun us2 s2 hh => ?_))
    obtain ⟨vs2, H2, J, rv2, hlen2, hea2, hnx⟩ := hh
    obtain ⟨hu2, _⟩ := J.pin (h2.objs.size, kxs_mw "ValueError.__init__" a) (List.mem_append_right _ (by simp))
    refine ⟨hu2, ?_⟩
    obtain ⟨nm, q, N', bs, bm, sn, sub, ab, col, dd, k0, k1, k2', k3', k5, hC, hbm⟩ := T.ox.cls
    obtain ⟨t3, ho3⟩ := exo_at J.hok hea2
    have XK4 : K.In s2.heap := by have := J.kIn; rw [eK] at this; exact this
    obtain ⟨hp4, g4, d4, tk4, os4⟩ := s2
    refine mw_call (XK4 _ _ hC) ho3 hu2 (by show us2.length ≤ sizeLine; rw [← rv2.length]; exact hlen2) fun h5 t5 k5 hx5 => ?_
    have J5 := J.write (t' := tk4) (x := a) (e := a) (o := exo a C none) (by rw [hea2]; exact True.intro) (.inl rfl) k5 ⟨_, hx5⟩ (exo_ok hx5)
    have eu : upd H2 a (exo a C none) = H2 := by
      funext b
      by_cases hb : b = a
      · rw [hb, upd_same, hea2]
      · rw [upd_ne hb]
    rw [eu] at J5
    have J6 : Inv X [] (startF N vs [some (.ref C)]) H2 { heap := h5, gens := g4, drawn := d4, toks := tk4, os := os4 } := J5.pins_of fun p hp => by cases hp
    exact wpAt_of_wpAny (ht.run [] _ _ _ _ J6 hnx)
  · cases fl with
    | ret u =>
      obtain ⟨v, σ', H', J, rv, q⟩ := hs
      exact fin J rv q
    | next =>
      obtain ⟨σ', H', J, q⟩ := hs
      exact fin (v := V.non) (u := Value.none) J rfl q
    | brk =>
      obtain ⟨_, _, _, q⟩ := hs
      exact False.elim q
    | cont =>
      obtain ⟨_, _, _, q⟩ := hs
      exact False.elim q
  · rw [exe] at hs
    rw [eP, ew]
    exact hs
end
end LX
/-! own exceptions that carry fields, caught and asked; defs called where one is handled -/
namespace LX
open PySem PySem.Spec PyProof.Rows L2 NdefX
/-- what an own exception class says -/
structure ExK (K : PySem.W.Frag) (D : Addr) : Prop where
  ox : OexC K D
  hg : PySem.W.findIn K (.ref D) "__getattribute__" = some (some (.builtin "BaseException.__getattribute__"))
  hk : PySem.W.findIn K (.ref D) "__getattr__" = some none
  hd : PySem.W.hasDictIn K D = true
  ha : PySem.W.findIn K (.ref D) "__class__" = some (some (.builtin "object.__class__"))
  hn : PySem.W.specialIn K (.builtin "object.__class__") "__get__" = some (some (.builtin "getset_descriptor.__get__"))
  ht : PySem.W.takesIn K (.builtin "object.__class__") = some true
  hm : PySem.W.mroIn K D (.type "object") = some true
section
variable {P : Program} {w : World} {K : PySem.W.Frag} {mg : Str → Option Value} {base : Heap}
theorem okN {x qual : Str} {st : Stmt} {f : Addr} {fd : FuncData} {N ps : List Str} {k : Nat} {sp : Sp} (F : Fun K x qual st f fd) (S : FnScope N ps (defScope st)) (len : ∀ vs H Q E, sp vs H Q E → vs.length = ps.length)
    (hbody : ∀ (cdv : Value) (A : Around) (outer : List Env) (s : Shared) (H : Hp) (vs : List V) (Q : VK) (E : XK), Room k (A.deeper (envOfC qual (defScope st) s.heap.objs.size f cdv)) → sp vs H Q E →
      ∃ t, PSs (cxOf (L2N.CX P w) P w K mg base N qual (defScope st) f cdv A outer s H E) (defBody st) t ∧ t { nx := fun _ H' => Q .non H', rt := Q } (L2.start N vs) H) : FnOk P w K mg base (L2N.CX P w) (k + 1) f fd ps sp := by
  obtain ⟨oc, od, kV, doc, pm, an, cdv, ct, osl, rfl, lk, hcd⟩ := F.ex
  exact fn_of lk hcd S len fun A outer s H vs Q E hr hsp => hbody cdv A outer s H vs Q E hr hsp
end
section
variable {X : Cx} {o e : Expr} {es : List Expr} {to te : TE} {ta : TA} {f : Str} {p p' p1 p2 pos : Pos}
theorem pmk_x {CX : CXT} {x : Str} {C fI : Addr} {k : Nat} {fd : FuncData} {ps : List Str} {sp : Sp} (T : OexC X.K C) (iC : PySem.W.findIn X.K (.ref C) "__init__" = some (some (.ref fI)) ∧ PySem.W.typeIn X.K (.ref fI) = some (.type "function"))
    (F1 : FnOk X.prog X.w X.K X.mg X.base CX k fI fd ps sp) (hr : Room (k + 1) X.A) (hb : Binds X.K fd ps []) (hx : Passes CX X (fun _ _ _ => False)) (hg : Gl X x) (hm : X.mg x = some (.ref C)) (ha : PA X (e :: es) ta)
    (hdb : (x == ("__debug__" : Str)) = false := by decide) (he : starEach (e :: es) X.env = (false, eval e X.env) :: starEach es X.env := by rfl) (hpl : (backTo pos (starEach es X.env)).any (·.1) = false := by rfl) :
    L2N.PMk X (.Call (.Name x p) (e :: es) [] pos) (tMkO C sp [] ta) := by
  obtain ⟨iC, tI⟩ := iC
  intro pins s σ H Q I h
  obtain ⟨nm, q, N, bs, bm, sn, sub, ab, col, dd, k0, k1, k2, k3, k5, hC, hbm⟩ := T.cls
  refine wpAny_Call_Name_kw (ld_glob I hg hm ?_ hdb)
  refine PySem.W.callWith_K (h₀ := X.base) I.ok.mod.kin T.kC (thn (ha.run pos pins s σ H _ I h) fun us s1 ⟨vs, H1, I1, r1, hz, q1⟩ => ⟨I1.kIn, ?_⟩) he hpl
  show wpAny _ _ (call (.ref C) us) _ _ _
  obtain ⟨hp, g, dr, tk, os⟩ := s1
  have hsz : hp.objs.size ≤ hp.objs.size + 1 := Nat.le_succ _
  have hn : H1 (hp.objs.size + 1) = none := I1.hok.fresh hsz
  have hq := q1 (hp.objs.size + 1) hn
  rw [List.append_nil] at hq
  have kk : ∀ b o, hp.get? b = some o → ((hp.push (PySem.W.kdv_tup us)).push (PySem.HandSPX.excO C hp.objs.size)).get? b = some o := fun b o e => Heap.get?_push_of_some _ (Heap.get?_push_of_some _ e)
  have hget : ((hp.push (PySem.W.kdv_tup us)).push (PySem.HandSPX.excO C hp.objs.size)).get? (hp.objs.size + 1) = some (PySem.HandSPX.excO C hp.objs.size) := by heap_get
  have I2 : Inv X pins σ (upd H1 (hp.objs.size + 1) (exo (hp.objs.size + 1) C none)) ⟨(hp.push (PySem.W.kdv_tup us)).push (PySem.HandSPX.excO C hp.objs.size), g, dr, tk, os⟩ :=
    I1.laid (t' := tk) (a := hp.objs.size + 1) (o := exo (hp.objs.size + 1) C none) (h' := (hp.push (PySem.W.kdv_tup us)).push (PySem.HandSPX.excO C hp.objs.size)) kk hsz (exo_ok hget)
  have r2 : Vals (V.ref (hp.objs.size + 1) :: vs) (Value.ref (hp.objs.size + 1) :: us) := .cons rfl r1
  have hl : (Value.ref (hp.objs.size + 1) :: us).length = ps.length := by
    have e := r2.length
    rw [F1.len _ _ _ _ hq] at e
    exact e.symm
  have hus : us.length ≤ sizeLine := by
    rw [← Paired.length r1, sizeLine_eq]
    omega
  have hb1 := hb ⟨(hp.push (PySem.W.kdv_tup us)).push (PySem.HandSPX.excO C hp.objs.size), g, dr, tk, os⟩ (Value.ref (hp.objs.size + 1) :: us) I2.kIn (by rw [List.append_nil]; exact hl)
  rw [List.append_nil] at hb1
  refine wpAny_call (PySem.HandSPX.call_own F.excBase_ValueError (fun Y => PySem.HandSPX.refsVE_contains Y bm hbm) (I1.kIn _ _ hC) (PySem.W.looks_findIn I1.kIn iC) (fun self => PySem.W.bind_fn I1.kIn self tI) hus
    (codeAny_mono (F1.run _ X.stack _ _ ⟨Value.ref (hp.objs.size + 1) :: us, []⟩ (Value.ref (hp.objs.size + 1) :: us) _ _ (fun _ _ _ => False) (hr.make C us []) (I2.env0.make C us []) hb1 r2 hq) fun r s' hq' => ?_))
  cases r with
  | error er => exact hx pins σ _ _ er s' I2 hq'
  | ok fl =>
    cases fl with
    | ret u =>
      obtain ⟨v, H2, os2, bare2, un2, hok2, rv, ev, d, fs, ea, ed, hd1, q2⟩ := hq'
      subst ev
      obtain ⟨h2, g2, d2, t2, os'⟩ := s'
      obtain ⟨t0, G, J, kG, ge, hoe, na⟩ := mk_end0 (d2 := d2) (t2 := t2) I1 hsz kk un2 hok2 os2 bare2 ea ed hd1
      exact ⟨rv, _, _, _, ⟨G, g2, d2, t2, os'⟩, _, .ref C, some d, rfl, J, kG, ge, hoe, ⟨rfl, rfl, fun vs e => by cases e; rfl⟩, rfl, rfl, na, rfl, bare2, raises_own T.exC T.tyC, q2⟩
    | next => exact False.elim hq'
    | brk => exact False.elim hq'
    | cont => exact False.elim hq'
end
/-! ### calls within a try -/
section
variable {X : Cx} {CX : CXT} {k : Nat} {f C : Addr} {fd : FuncData} {ps : List Str} {sp : Sp} {E : L2.St → XK} {x m : Str} {p pos apos : Pos} {e o : Expr} {es : List Expr} {ta : TE} {t : TA}
theorem pe_methAt {pl : Sem Bool} (he : PE X o ta) (c : Cls X.K C) (hm : Meth X.K C m f) (F : FnOk X.prog X.w X.K X.mg X.base CX k f fd ps sp) (hr : Room k X.A) (hb : Binds X.K fd ps []) (hx : ∀ σ, PassesAt CX X σ (E σ)) (ha : PA X (e :: es) t)
    (hst : starEach (e :: es) X.env = (false, eval e X.env) :: starEach es X.env := by rfl) (hpl : (backTo pos (starEach es X.env)).any (·.1) = false := by rfl)
    (ht : eval (.Call (.Attribute o m apos) (e :: es) [] pos) X.env = (do
      let ov ← eval o X.env
      standAt apos.atName
      let (f, first) ← holding [ov] (getMethod ov m pl)
      callWith pos f first (backTo pos (starEach (e :: es) X.env)) (backToKw pos (keywordEach [] X.env))) := by rfl) :
    PE X (.Call (.Attribute o m apos) (e :: es) [] pos) (L2H.tMethH C m sp E ta t) := by
  refine ⟨fun pins s σ H Q I h => ?_⟩
  refine PySem.W.methodCall_KW (pl := pl) (thn (he.run pins s σ H _ I h) fun u s1 ⟨x, H1, I1, rx, a, dx, fs, ex, ea, l, q⟩ => ?_) ht
  subst ex
  obtain rfl : u = Value.ref a := rx
  refine getmeth_ok I1 ea c hm l ?_
  refine PySem.W.callWith_K (first := [.ref a]) (h₀ := X.base) I.ok.mod.kin hm.kp (thn (ha.run pos pins s1 σ H1 _ I1 q) fun us s2 ⟨vs, H2, I2, r, q2⟩ => ⟨I2.kIn, ?_⟩) hst hpl
  exact run_fnS (us := .ref a :: us) (vs := .ref a :: vs) F hr hb (hx σ) I2 (.cons rfl r) q2
theorem pe_methAt0 {pl : Sem Bool} (he : PE X o ta) (c : Cls X.K C) (hm : Meth X.K C m f) (F : FnOk X.prog X.w X.K X.mg X.base CX k f fd ps sp) (hr : Room k X.A) (hb : Binds X.K fd ps []) (hx : ∀ σ, PassesAt CX X σ (E σ))
    (ht : eval (.Call (.Attribute o m apos) [] [] pos) X.env = (do
      let ov ← eval o X.env
      standAt apos.atName
      let (f, first) ← holding [ov] (getMethod ov m pl)
      callWith pos f first (backTo pos (starEach [] X.env)) (backToKw pos (keywordEach [] X.env))) := by rfl) :
    PE X (.Call (.Attribute o m apos) [] [] pos) (L2H.tMethH C m sp E ta tNil) := by
  refine ⟨fun pins s σ H Q I h => ?_⟩
  refine PySem.W.methodCall_KW (pl := pl) (thn (he.run pins s σ H _ I h) fun u s1 ⟨x, H1, I1, rx, a, dx, fs, ex, ea, l, q⟩ => ?_) ht
  subst ex
  obtain rfl : u = Value.ref a := rx
  refine getmeth_ok I1 ea c hm l ?_
  exact PySem.W.callWith_K0 (first := [.ref a]) I1.kIn hm.kp (run_fnS (us := [.ref a]) (vs := [.ref a]) F hr hb (hx σ) I1 (.cons rfl .nil) q)
end
theorem pass0At {X : Cx} {E : L2.St → XK} : ∀ σ, PassesAt CX0 X σ (E σ) := fun _ _ _ _ _ _ _ h => h.elim
/-! ### asking the exception that is held -/
/-- what is known of a pinned exception -/
structure PinE (cls : Value) (d : Option Addr) (oe : Obj) : Prop where
  z : L2N.Zn cls d oe
  f : ∃ vs, oe.data = .fields vs
def rIsP (K : PySem.W.Frag) (a : Addr) (cls : Value) (d : Option Addr) : List V → Hp → VK → Prop := fun xs H Q => ∃ (D : Addr) (c : V) (cv : Value) (b : Bool), cls = .ref D ∧ ExK K D ∧ xs = [.ref a, c] ∧ ClsV c cv ∧ PySem.W.kitOne K (.ref D) cv = some b ∧ (∀ dd, d = some dd → ∃ fs, H dd = some (.xd fs)) ∧ Q (.bl b) H
theorem call_isP {X : Cx} {a : Addr} {oe : Obj} {cls : Value} {d : Option Addr} (hp : (a, oe) ∈ X.pn) (Z : PinE cls d oe) : CallR X (.builtin "isinstance") (rIsP X.K a cls d) := by
  intro pins s σ H xs us Q I r h
  obtain ⟨D, c, cv, b, rfl, C, rfl, hcv, e, hdd, q⟩ := h
  cases r with
  | cons rx rr =>
    cases rr with
    | cons rt rr =>
      cases rr
      cases rx
      have ec := hcv.eq rt
      subst ec
      obtain ⟨hget, _⟩ := I.pin (a, oe) (List.mem_append_left _ hp)
      obtain ⟨vs, hv⟩ := Z.f
      have hz := Z.z.zc
      obtain ⟨cdD, hcD, _⟩ := PySem.W.any_some C.hd
      cases d with
      | none =>
        have J : PySem.W.InstAt s.heap a oe D none := by
          obtain ⟨oc, od, oda, osl⟩ := oe
          obtain ⟨h1, h2⟩ := hz
          dsimp only at h1 h2 hv
          subst h1 h2 hv
          exact ⟨hget, rfl, rfl, trivial⟩
        exact PySem.W.kia_one (PySem.W.kitx_exc (by rw [hcD]; rfl) C.hg C.hk C.ox.exC C.ha C.hn C.ht C.hm) I.kIn J e (fun z => nomatch z) fun tk => ⟨.bl b, H, I.kept (t' := tk) fun _ _ z => z, rfl, q⟩
      | some dd =>
        obtain ⟨fs, hfs⟩ := hdd dd rfl
        have hx : ObjOk X.prog X.w H s.heap dd (.xd fs) := I.hok dd _ hfs
        obtain ⟨mA, hns, hr⟩ := hx
        obtain ⟨od, ho, hl⟩ := lookIn_ns hns
        have J : PySem.W.InstAt s.heap a oe D (some od) := ⟨hget, hz.1, by unfold PySem.W.notCls; rw [hv] <;> rfl, by rw [hz.2]; exact ho⟩
        exact PySem.W.kia_one (PySem.W.kitx_exc (by rw [hcD]; rfl) C.hg C.hk C.ox.exC C.ha C.hn C.ht C.hm) I.kIn J e (fun z => nomatch z) fun tk => ⟨.bl b, H, I.kept (t' := tk) fun _ _ z => z, rfl, q⟩
/-- field f of the exception held -/
def tXfP (K : PySem.W.Frag) (a : Addr) (cls : Value) (d : Option Addr) (f : Str) (te : TE) : TE := fun σ H Q => te σ H fun x H1 => x = .ref a ∧ ∃ (C dd : Addr) (fs : List (Str × V)) (v : V), cls = .ref C ∧ ExK K C ∧ PySem.W.findIn K (.ref C) f = some none ∧ d = some dd ∧ H1 dd = some (.xd fs) ∧ fs.lookup f = some v ∧ Q v H1
theorem pe_xfP {X : Cx} {a : Addr} {oe : Obj} {cls : Value} {d : Option Addr} {e : Expr} {te : TE} {pos : Pos} {n : Str} (hp : (a, oe) ∈ X.pn) (Z : PinE cls d oe) (he : PE X e te) (hb : attributeBase e n X.env (eval e X.env) = eval e X.env := by rfl) :
    PE X (.Attribute e n pos) (tXfP X.K a cls d n te) := by
  refine ⟨fun pins s σ H Q I h => ?_⟩
  refine attr_of hb (thn (he.run pins s σ H _ I h) fun u s1 hh => ?_)
  obtain ⟨x, H1, I1, rx, ex, C, dd, fs, v, ec, T, hno, ed, ea, l, q⟩ := hh
  subst ex
  obtain rfl : u = Value.ref a := rx
  subst ec
  subst ed
  have hz := Z.z.zc
  obtain ⟨ha, _⟩ := I1.pin (a, oe) (List.mem_append_left _ hp)
  obtain ⟨vs, hd⟩ := Z.f
  have hx : ObjOk X.prog X.w H1 s1.heap dd (.xd fs) := I1.hok dd _ ea
  obtain ⟨mA, hns, hr⟩ := hx
  obtain ⟨od, ho, hl⟩ := lookIn_ns hns
  obtain ⟨u, hu, ru⟩ := RelO.some_of (v := v) (o := mA n) (by rw [← l]; exact hr n)
  have J : PySem.W.InstAt s1.heap a oe C (some od) := ⟨ha, hz.1, by unfold PySem.W.notCls; rw [hd] <;> rfl, by rw [hz.2]; exact ho⟩
  exact HandSPX.exc_get I1.kIn J T.hg T.hk T.ox.exC (PySem.W.findObj_own T.hd hno rfl (by rw [hl, hu])) (handed_of ru) ⟨v, H1, I1.tok _, ru, q⟩
/-! ### defs called where an exception is handled, that may know it -/
abbrev SpP := Addr → Value → Option Addr → Sp
structure FnHP (P : Program) (w : World) (K : PySem.W.Frag) (mg : Str → Option Value) (base : Heap) (CX : CXT) (k : Nat) (f : Addr) (fd : FuncData) (ps : List Str) (sp : SpP) : Prop where
  len : ∀ a cls d vs H Q E, sp a cls d vs H Q E → vs.length = ps.length
  run : ∀ (A : Around) (outer : List Env) (s : Shared) (H : Hp) (args : Args) (us : List Value) (vs : List V) (Q : VK) (E : XK) (p : Addr × Obj) (cls : Value) (d : Option Addr), L2H.RoomH k A → L2H.Hot1 A p → PinE cls d p.2 → L2H.PinOk outer H s p → Env0 P w K mg base A outer s H → BindsTo s fd args (ps.zip us) → Vals vs us → sp p.1 cls d vs H Q E →
    codeAny (model P w) A (.call (.ref f) args) (CR CX outer P w H s Q E) s
theorem fn_ofHP {CX : CXT} {P : Program} {w : World} {K : PySem.W.Frag} {mg : Str → Option Value} {base : Heap} {k : Nat} {f : Addr} {name qual : Str} {params : Arguments} {body : List Stmt} {scope : Scope} {dV kV doc pm cdv ct oc : Value} {an od : Option Addr}
    {osl : Array (Option Value)} {N ps : List Str} {sp : SpP} (lk : K.lookup f = some ⟨oc, od, .func (PySem.W.fnOf name qual params body scope dV kV doc pm an cdv ct), osl⟩) (hcd : PySem.W.codeIn K cdv qual = true) (S : FnScope N ps scope)
    (len : ∀ a cls d vs H Q E, sp a cls d vs H Q E → vs.length = ps.length)
    (hbody : ∀ (A : Around) (outer : List Env) (s : Shared) (H : Hp) (vs : List V) (Q : VK) (E : XK) (p : Addr × Obj) (cls : Value) (d : Option Addr), L2H.Hot1 A p → PinE cls d p.2 → L2H.RoomH k (A.deeper (envOfC qual scope s.heap.objs.size f cdv)) → sp p.1 cls d vs H Q E →
      ∃ t, PSs (L2H.cxH CX P w K mg base N qual scope f cdv A outer s H E p) body t ∧ t { nx := fun _ H' => Q .non H', rt := Q } (L2.start N vs) H) :
    FnHP P w K mg base CX (k + 1) f (PySem.W.fnOf name qual params body scope dV kV doc pm an cdv ct) ps sp := by
  refine ⟨len, fun A outer s H args us vs Q E p cls d hr hot Z hpin e0 hb r hsp => ?_⟩
  have hl := len _ _ _ _ _ _ _ hsp
  have KX : K.In s.heap := e0.mod.kin.keeps fun b o e => (e0.bs b o e).1
  have lim : s.heap.NoLimit := e0.mod.nolimit.keeps fun b o e => (e0.bs b o e).1
  have hkind : ∀ y ∈ ps.zip us, scope.names.lookup y.1 = some .local ∨ (scope.names.lookup y.1 = some .cell ∧ ((cellsFrom (s.heap.objs.size + 1) scope.names []).lookup y.1).isSome = true) := fun ⟨n, v⟩ hy => by
    rcases S.par n (List.of_mem_zip hy).1 with q | q
    · exact .inl q
    · exact .inr ⟨q, PySem.W.cellsFrom_some _ _ _ (.inl q)⟩
  refine codeAny_call_function hr.depth (KX _ _ lk) rfl S.co S.gen rfl (PySem.W.codeRec_of KX hcd) (hb _ _ _ _ ?_)
  refine wpAny_newFunctionEnv_cells S.kind hkind fun env he s1 x => ?_
  subst he
  refine ⟨lim.keeps x.toInCall.keep, codeAny_func ?_⟩
  obtain ⟨t, ht, hq⟩ := hbody A outer s H vs Q E p cls d hot Z (hr.deeper _) hsp
  have I : Inv (L2H.cxH CX P w K mg base N qual scope f cdv A outer s H E p) [] (L2.start N vs) H s1 := L2H.inv_startH S hpin e0 hl r x
  refine wpAny_mono (ht.run [] s1 (L2.start N vs) H _ I hq) (fun fl s' hs => ?_) fun e s' hs => hs
  have fin : ∀ {σ' : L2.St} {H' : Hp} {v : V} {u : Value}, Inv (L2H.cxH CX P w K mg base N qual scope f cdv A outer s H E p) [] σ' H' s' → RelV v u → Q v H' → CE outer P w H s Q u s' :=
    fun {σ' H' v u} J rv q => ⟨v, H', J.os, J.bare, J.base, J.hok, rv, q⟩
  cases fl with
  | ret u =>
    obtain ⟨v, σ', H', J, rv, q⟩ := hs
    exact fin J rv q
  | next =>
    obtain ⟨σ', H', J, q⟩ := hs
    exact fin (v := V.non) (u := Value.none) J rfl q
  | brk =>
    obtain ⟨_, _, _, q⟩ := hs
    exact False.elim q
  | cont =>
    obtain ⟨_, _, _, q⟩ := hs
    exact False.elim q
theorem okHP {P : Program} {w : World} {K : PySem.W.Frag} {mg : Str → Option Value} {base : Heap} {x qual : Str} {st : Stmt} {f : Addr} {fd : FuncData} {N ps : List Str} {k : Nat} {sp : SpP} {CX : CXT} (F : Fun K x qual st f fd) (S : FnScope N ps (defScope st)) (len : ∀ a cls d vs H Q E, sp a cls d vs H Q E → vs.length = ps.length)
    (hbody : ∀ (cdv : Value) (A : Around) (outer : List Env) (s : Shared) (H : Hp) (vs : List V) (Q : VK) (E : XK) (p : Addr × Obj) (cls : Value) (d : Option Addr), L2H.Hot1 A p → PinE cls d p.2 → L2H.RoomH k (A.deeper (envOfC qual (defScope st) s.heap.objs.size f cdv)) → sp p.1 cls d vs H Q E →
      ∃ t, PSs (L2H.cxH CX P w K mg base N qual (defScope st) f cdv A outer s H E p) (defBody st) t ∧ t { nx := fun _ H' => Q .non H', rt := Q } (L2.start N vs) H) : FnHP P w K mg base CX (k + 1) f fd ps sp := by
  obtain ⟨oc, od, kV, doc, pm, an, cdv, ct, osl, rfl, lk, hcd⟩ := F.ex
  exact fn_ofHP lk hcd S len fun A outer s H vs Q E p cls d hot Z hr hsp => hbody cdv A outer s H vs Q E p cls d hot Z hr hsp
section
variable {X : Cx} {CX : CXT} {k : Nat} {f C : Addr} {fd : FuncData} {ps : List Str} {sp : SpP} {E : L2.St → XK} {x m : Str} {q pos apos : Pos} {e o : Expr} {es : List Expr} {ta : TE} {t : TA} {p : Addr × Obj} {cls : Value} {d : Option Addr}
theorem run_fnHP {pins : List (Addr × Obj)} {σ : L2.St} {H : Hp} {s : Shared} {Q : VK} {us : List Value} {vs : List V} (F : FnHP X.prog X.w X.K X.mg X.base CX k f fd ps sp) (hr : L2H.RoomH k X.A) (hot : L2H.Hot1 X.A p) (Z : PinE cls d p.2) (hp : p ∈ X.pn) (hb : Binds X.K fd ps []) (hx : PassesAt CX X σ (E σ))
    (I : Inv X pins σ H s) (r : Vals vs us) (h : sp p.1 cls d vs H Q (E σ)) : wpAny (model X.prog X.w) X.A (call (.ref f) us) (EP X pins σ Q) X.xe s := by
  have hl : us.length = ps.length := by rw [← r.length]; exact F.len _ _ _ _ _ _ _ h
  have b := hb s us I.kIn (by rw [List.append_nil]; exact hl)
  rw [List.append_nil] at b
  have P1 := I.pin p (List.mem_append_left _ hp)
  have hpin : L2H.PinOk X.stack H s p := ⟨P1.1, P1.2.1, fun hm => (List.mem_cons.mp (I.stkSub p.1 hm)).elim P1.2.2.1 P1.2.2.2.1, P1.2.2.2.2⟩
  refine wpAny_call (codeAny_mono (F.run X.A X.stack s H ⟨us, []⟩ us vs Q (E σ) p cls d hr hot Z hpin I.env0 b r h) fun r s' hq => ?_)
  cases r with
  | error e => exact hx pins H s e s' I hq
  | ok fl =>
    cases fl with
    | ret u => exact I.after hq
    | next => exact False.elim hq
    | brk => exact False.elim hq
    | cont => exact False.elim hq
theorem pe_callHP {a : Addr} {oe : Obj} (F : FnHP X.prog X.w X.K X.mg X.base CX k f fd ps sp) (hr : L2H.RoomH k X.A) (hot : L2H.Hot1 X.A (a, oe)) (Z : PinE cls d oe) (hp : (a, oe) ∈ X.pn) (hg : Gl X x) (hm : X.mg x = some (.ref f)) (hk : PySem.W.keepIn X.K (.ref f) = true) (hb : Binds X.K fd ps []) (hx : ∀ σ, PassesAt CX X σ (E σ))
    (ha : PA X (e :: es) t) (hdb : (x == ("__debug__" : Str)) = false := by decide) (he : starEach (e :: es) X.env = (false, eval e X.env) :: starEach es X.env := by rfl) (hpl : (backTo pos (starEach es X.env)).any (·.1) = false := by rfl) :
    PE X (.Call (.Name x q) (e :: es) [] pos) (tCallS (sp a cls d) E t) := by
  refine ⟨fun pins s σ H Q I h => ?_⟩
  refine wpAny_Call_Name_kw (ld_glob I hg hm ?_ hdb)
  refine PySem.W.callWith_K (h₀ := X.base) I.ok.mod.kin hk (thn (ha.run pos pins s σ H _ I h) fun us s1 ⟨vs, H1, I1, r, q⟩ => ⟨I1.kIn, ?_⟩) he hpl
  exact run_fnHP (p := (a, oe)) F hr hot Z hp hb (hx σ) I1 r q
end
theorem suite_hot {X : Cx} {a : Addr} {oe : Obj} {cls : Value} {d : Option Addr} {pn : List (Addr × Obj)} (Z : PinE cls d oe) : L2H.Hot1 (X.suite a ((a, oe) :: pn)).A (a, oe) := by
  obtain ⟨vs, hv⟩ := Z.f
  exact ⟨rfl, vs, hv, Z.z.2.2 vs hv⟩
theorem huH_of {A : Around} {k : Nat} (hr : L2H.RoomH k A) : A.units + 64 < cLine := by have := hr.un; omega
theorem hu1H_of {A : Around} {k : Nat} (hr : L2H.RoomH k A) : A.units + 1 < cLine := by have := hr.un; omega
theorem roomS {X : Cx} {k : Nat} {a : Addr} {pn : List (Addr × Obj)} (hr : Room k X.A) : L2H.RoomH k (X.suite a pn).A := ⟨hr.dp, hr.un⟩
theorem takes0N {X : Cx} : L2N.Takes X (fun _ _ _ _ => False) := fun _ _ x => by
  obtain ⟨_, _, _, _, _, _, _, _, _, _, _, _, _, _, _, _, z⟩ := x
  exact z.elim
/-! ### an own exception with one field -/
def StrOk : V → Prop
  | .int i => i.natAbs.log2 < 1920
  | .str _ => True
  | _ => False
def sp_exc1 (C : Addr) (f : Str) : Sp := fun vs H Q _ => ∃ (a : Addr) (x : V), vs = [.ref a, x] ∧ StrOk x ∧ H a = some (exo a C none) ∧ ∀ dx, H dx = none → dx ≠ a → Q .non (L2.upd (L2.upd H dx (exd dx [(f, x)])) a (exo a C (some dx)))
theorem exc1_go {x : V} {H : Hp} {Q : VK} (hx : StrOk x) (h : ∀ z, Q (.str z) H) : rStrU [x] H Q := by
  cases x with
  | int i => exact ⟨hx, h _⟩
  | str z => exact h _
  | _ => exact hx.elim
theorem exc1_mk {C : Addr} {f : Str} {x : V} {H : Hp} {Q : XK} {E : XK} (hx : StrOk x) (h : ∀ d, H d = none → Q (.ref C) (some d) (L2.upd H d (.xd [(f, x)]))) :
    [x].length ≤ 1000 ∧ ∀ a, H a = none → sp_exc1 C f (.ref a :: ([x] ++ [])) (L2.upd H a (exo a C none))
      (fun v H2 => v = .non ∧ ∃ (d : Addr) (fs : List (Str × V)), H2 a = some (exo a C (some d)) ∧ H2 d = some (exd d fs) ∧ H d = none ∧ Q (.ref C) (some d) (L2.upd (del H2 a) d (.xd fs))) E := by
  refine ⟨(by show 1 ≤ 1000; decide), fun a ha => ⟨a, x, rfl, hx, upd_same, fun dx h1 h2 => ⟨rfl, dx, _, upd_same, by rw [upd_ne h2]; exact upd_same, by rw [upd_ne h2] at h1; exact h1, ?_⟩⟩⟩
  have e : L2.upd (del (L2.upd (L2.upd (L2.upd H a (exo a C none)) dx (exd dx [(f, x)])) a (exo a C (some dx))) a) dx (.xd [(f, x)]) = L2.upd H dx (.xd [(f, x)]) := by
    funext b
    by_cases hb : b = dx
    · subst hb; rw [upd_same, upd_same]
    · rw [upd_ne hb, upd_ne hb]
      by_cases hba : b = a
      · subst hba; rw [del_same, ha]
      · rw [del_ne hba, upd_ne hba, upd_ne hb, upd_ne hba]
  rw [e]
  exact h dx (by rw [upd_ne h2] at h1; exact h1)
/-! ### rules with the law's own K, for a try's body and suite -/
section
variable {X : Cx} {K : PySem.W.Frag}
theorem pe_bmK {T name id : String} {r : V → List V → Hp → VK → Prop} {o e : Expr} {es : List Expr} {apos cpos : Pos} {to : TE} {t : TA} (eK : X.K = K) (pa : PlainAttrs T) (slot : Slot T name id) (hty : typeOf (.builtin id) = pure (.type "method_descriptor")) (hm : MtR X id r) (ho : PE X o to) (ha : PA X (e :: es) t)
    (hbase : attributeBase o name X.env (eval o X.env) = eval o X.env := by rfl)
    (hfew : ((backTo cpos (starEach (e :: es) X.env)).all (fun x => !x.1) && (backToKw cpos (keywordEach [] X.env)).all (fun x => x.1.isSome)
      && decide ((e :: es).length + ([] : List Keyword).length + (if ([] : List Keyword).isEmpty then 0 else 1) < 30)) = true := by rfl)
    (hline : (apos.endLine == cpos.line) = true := by rfl) (hs : starEach (e :: es) X.env = (false, eval e X.env) :: starEach es X.env := by rfl) (hplain : (backTo cpos (starEach es X.env)).any (·.1) = false := by rfl) :
    PE X (.Call (.Attribute o name apos) (e :: es) [] cpos) (tBM K T r to t) := by subst eK; exact pe_bm pa slot hty hm ho ha hbase hfew hline hs hplain
theorem call_isiK (eK : X.K = K) : CallR X (.builtin "isinstance") (rIsi K) := by subst eK; exact call_isi
theorem call_isPK {a : Addr} {oe : Obj} {cls : Value} {d : Option Addr} (eK : X.K = K) (hp : (a, oe) ∈ X.pn) (Z : PinE cls d oe) : CallR X (.builtin "isinstance") (rIsP K a cls d) := by subst eK; exact call_isP hp Z
theorem pe_xfPK {a : Addr} {oe : Obj} {cls : Value} {d : Option Addr} {e : Expr} {te : TE} {pos : Pos} {n : Str} (eK : X.K = K) (hp : (a, oe) ∈ X.pn) (Z : PinE cls d oe) (he : PE X e te) (hb : attributeBase e n X.env (eval e X.env) = eval e X.env := by rfl) :
    PE X (.Attribute e n pos) (tXfP K a cls d n te) := by subst eK; exact pe_xfP hp Z he hb
theorem pe_notTK {a : Expr} {ta : TE} {pos : Pos} (eK : X.K = K) (ha : PE X a ta) : PE X (.UnaryOp .Not a pos) (tNotT K ta) := by subst eK; exact pe_notT ha
end
def tTryAs (K : PySem.W.Frag) (c : Value) (i : Nat) (ts : Addr → Value → Option Addr → TS) (Wout : WX) (tb : WX → TS) : TS := fun D σ H => tb (wAs K c i ts Wout D) D σ H
theorem ps_tryAs {X : Cx} {K : PySem.W.Frag} {x n : Str} {c : Value} {i : Nat} {body suite : List Stmt} {b₀ : Stmt} {np pos pos' : Pos} {tb : WX → TS} {ts : Addr → Value → Option Addr → TS} {Wout : WX} (eK : X.K = K)
    (hs : X.stack = X.env :: X.outer) (hf : X.env.frame = some X.env.locals) (hN : X.N.Nodup) (hi : X.N[i]? = some n) (hln : X.env.kindOf n = some .local) (hc : Names X x c) (tk : L2N.Takes X Wout)
    (hb : ∀ (W : WX) (pn : List (Addr × Obj)) (xe : Value → Shared → Prop), L2N.Takes (X.tr pn xe) W → PassesOwn (model X.prog X.w) X.A X.env xe → PSs (X.tr pn xe) body (tb W))
    (hsu : ∀ (a : Addr) (oe : Obj) (cls : Value) (d : Option Addr) (pn : List (Addr × Obj)), L2N.Zn cls d oe → (∃ vs, oe.data = .fields vs) → PSs (X.suite a ((a, oe) :: pn)) (b₀ :: suite) (ts a cls d)) :
    PS X (.Try body [.ExceptHandler (some (.Name x np)) (some n) (b₀ :: suite) pos'] [] [] pos) (tTryAs K c i ts Wout tb) := by subst eK; exact L2N.ps_try_as hs hf hN hi hln hc tk hb hsu
theorem passF {X : Cx} : Passes (L2N.CX X.prog X.w) X (fun _ _ _ => False) := fun _ _ _ _ _ _ _ c => by
  obtain ⟨_, _, _, _, _, _, _, _, _, _, _, _, h⟩ := c
  exact h.elim
end LX
/-! del xs[a:] of a list -/
namespace LX
open PySem PySem.Spec PyProof.Rows L2
theorem zip_cut {α : Type} (p : Nat → Bool) (st : Nat) : ∀ (l : List α) (i : Nat), (∀ k, i ≤ k → k < i + l.length → p k = decide (st ≤ k)) → (l.zipIdx i).filterMap (fun q => if p q.2 = true then none else some q.1) = l.take (st - i)
  | [], i, _ => by simp
  | a :: r, i, h => by
    rw [List.zipIdx_cons, List.filterMap_cons]
    have h0 := h i (Nat.le_refl _) (by simp)
    have ih := zip_cut p st r (i + 1) fun k h1 h2 => h k (by omega) (by rw [List.length_cons]; omega)
    by_cases q : st ≤ i
    · rw [decide_eq_true q] at h0
      simp only [h0, if_true]
      rw [ih, show st - (i + 1) = 0 by omega, show st - i = 0 by omega]
      rfl
    · rw [decide_eq_false q] at h0
      simp only [h0, Bool.false_eq_true, if_false]
      rw [ih, show st - i = (st - (i + 1)) + 1 by omega, List.take_succ_cons]
theorem bounds_tail (a : Int) (n : Nat) : sliceBounds (some a) none none n = (((HT.sIx n 0 (some a) : Nat) : Int), (n : Int), (1 : Int)) := by
  simp only [sliceBounds, Option.getD_none, show (1 : Int) > 0 by decide, if_true]
  congr 1
  show max 0 (min (if a < 0 then a + n else a) (n : Int)) = ((if a < 0 then (a + (n : Int)).toNat else min a.toNat n : Nat) : Int)
  by_cases h : a < 0
  · rw [if_pos h, if_pos h]; omega
  · rw [if_neg h, if_neg h]; omega
section
variable {prog : Program} {w : World} {A : Around} {E : Value → Shared → Prop} {s : Shared}
theorem delItem_tail {l sl : Addr} {items : Array Value} {n : Nat} {vl : Value} {a : Int} {Q : Unit → Shared → Prop}
    (e : s.heap.get? l = some { cls := .type "list", data := .seq items n }) (hs : s.heap.IsSliceOf sl vl .none .none) (pl : IsPart vl (some a)) (hsz : items.size ≤ sizeLine)
    (h : ∀ f : Array Value → Array Value, f items = (items.toList.take (HT.sIx items.size 0 (some a))).toArray → Q () { s with heap := s.heap.update l (Obj.mapSeq f) }) :
    wpAny (model prog w) A (delItem (.ref l) (.ref sl)) Q E s := by
  have hl : s.heap.IsList l items := PySem.IsL.isList e
  obtain ⟨os, hos, hcs, hds⟩ := id hs
  have hTs : s.TypeIs (.ref sl) "slice" := ⟨os, hos, hcs⟩
  have hstep : ¬ ((rawPart none == rawInt 0) = true) := Bool.false_ne_true
  refine wpAny_delItem_slot hl.typeIs (by decide) F.slot_list_delitem ?_
  refine wpAny_call_entry F.slot_list_delitem hl.typeIs F.entry_list_delitem ?_ (F.args_list_delitem_2 _ _)
  show wpAny _ _ (Builtin.List.listSubscript? (.ref sl) >>= _) _ _ s
  refine wpAny_bind ?_
  unfold Builtin.List.listSubscript?
  refine wpAny_bind (wpAny_specialOf hTs slice_no_index ?_)
  simp only [Option.isNone_none, if_true]
  refine wpAny_pure ?_
  show wpAny _ _ (typeOf (.ref sl) >>= _) _ _ s
  refine wpAny_bind (wpAny_typeOf hTs ?_)
  first
    | rw [if_neg (by decide)]
    | refine PySem.W.KFB.if_not (by decide) ?_
  rw [listSliceParts_eq]
  refine wpAny_bind (wpAny_bind (wpAny_field hos hds (x := .none) rfl (wpAny_bind (wpAny_listPart .none ?_))))
  rw [if_neg hstep]
  refine wpAny_bind (wpAny_field hos hds (x := vl) rfl (wpAny_bind (wpAny_listPart pl ?_)))
  refine wpAny_bind (wpAny_field hos hds (x := .none) rfl (wpAny_bind (wpAny_listPart .none (wpAny_pure ?_))))
  unfold Builtin.List.listItems
  refine wpAny_bind (wpAny_bind (wpAny_seqItems e rfl (wpAny_pure ?_)))
  refine wpAny_bind (wpAny_of_eq ((sliceIndices_raw (some a) none none items.size (by simp)).trans (congrArg (pure : Int × Int × Int → Sem (Int × Int × Int)) (bounds_tail a items.size))) ?_)
  refine wpAny_bind (wpAny_rule ?_)
  have hsub : ∀ f : Array Value → Array Value, f items = (items.toList.take (HT.sIx items.size 0 (some a))).toArray → (f items).size ≤ sizeLine + 1 := fun f hf => by
    rw [hf, List.size_toArray, List.length_take]
    have : items.toList.length = items.size := by simp
    omega
  have key : ∀ (p : Nat → Bool), (∀ k, k < items.size → p k = decide (HT.sIx items.size 0 (some a) ≤ k)) → (List.filterMap (fun x : Value × Nat => if p x.2 = true then none else some x.1) items.toList.zipIdx).toArray = (items.toList.take (HT.sIx items.size 0 (some a))).toArray := fun p hp => by
    have := zip_cut p (HT.sIx items.size 0 (some a)) items.toList 0 fun k _ h2 => hp k (by simpa using h2)
    rw [this, Nat.sub_zero]
  show wpAny _ _ (updateSeq l _ >>= _) _ _ s
  have sel : ∀ k, k < items.size → (if (1 : Int) > 0 then decide (((HT.sIx items.size 0 (some a) : Nat) : Int) ≤ (k : Int)) && decide ((k : Int) < (items.size : Int)) && (((k : Int) - ((HT.sIx items.size 0 (some a) : Nat) : Int)) % 1 == 0) else false) = decide (HT.sIx items.size 0 (some a) ≤ k) := fun k hk => by
    rw [if_pos (by decide)]
    have h1 : decide ((k : Int) < (items.size : Int)) = true := decide_eq_true (by omega)
    have h2 : ((((k : Int) - ((HT.sIx items.size 0 (some a) : Nat) : Int)) % 1 == 0)) = true := by rw [Int.emod_one]; rfl
    rw [h1, h2, Bool.and_true, Bool.and_true]
    by_cases q : HT.sIx items.size 0 (some a) ≤ k
    · rw [decide_eq_true q, decide_eq_true (by omega)]
    · rw [decide_eq_false q, decide_eq_false (by omega)]
  refine wpAny_bind (wpAny_updateSeq (hz := hsz) (_hz' := ?z) e rfl ?_)
  case z =>
    refine Nat.le_trans (Nat.le_of_eq (congrArg Array.size (key _ ?_))) ?_
    · exact fun k hk => sel k hk
    · rw [List.size_toArray, List.length_take]
      have : items.toList.length = items.size := by simp
      omega
  refine wpAny_bind (wpAny_letGo ?_)
  refine wpAny_pure ⟨.none, rfl, h _ (key _ ?_)⟩
  exact fun k hk => sel k hk
end
def tDelTail (to : TE) (tl : TO) : TS := fun D σ H => to σ H fun x H1 => tl σ H1 fun y H2 => ∃ (l : Addr) (xs : List V) (i : Int), x = .ref l ∧ y = some i ∧ H2 l = some (.lst xs) ∧ D.nx σ (L2.upd H2 l (.lst (xs.take (HT.sIx xs.length 0 (some i)))))
theorem ps_delTail {X : Cx} {o lo : Expr} {to : TE} {tl : TO} {p2 tpos pos : Pos} (ho : PE X o to) (hl : PO X (some lo) tl) : PS X (.Delete [.Subscript o (.Slice (some lo) none none p2) tpos] pos) (tDelTail to tl) := by
  refine ⟨fun pins s σ H D I h => ?_⟩
  refine wpAny_Delete (wpAny_deleteEach_cons (wpAny_delete_Subscript (thn (ho.run pins s σ H _ I h) fun u s1 ⟨x, H1, I1, rx, q1⟩ => ?_)))
  refine wpAny_Slice (thn (hl.run pins s1 σ H1 _ I1 q1) fun vl s2 ⟨o, H2, I2, pl, l, xs, i, ex, eo, hH, q2⟩ => ?_)
  subst ex
  subst eo
  rw [evalPart_none]
  refine wpAny_pure ?_
  refine wpAny_pure ?_
  cases (show u = Value.ref l from rx)
  have I4 : Inv X pins σ H2 { s2 with heap := s2.heap.push { cls := .type "slice", data := .fields #[vl, .none, .none] } } := I2.kept (t' := s2.toks) fun b ob q => Heap.get?_push_of_some _ q
  obtain ⟨z, its, n, r, hlen, e⟩ := I4.lstM hH
  refine delItem_tail e (Heap.IsSliceOf.new ..) pl (by rw [List.size_toArray]; omega) fun f hf => wpAny_deleteEach_nil ⟨σ, _, ?_, q2⟩
  refine I4.lset (its' := its.take (HT.sIx its.length 0 (some i))) (t' := s2.toks) hH e ?_ ?_ ?_
  · rw [hf, List.size_toArray]
  · rw [hlen]; exact r.take _
  · rw [List.length_take]; omega
end LX
/-! a text of one sign times a number -/
namespace LX
open PySem PySem.Spec PyProof.Rows L2
theorem rep1 (c : Nat) : ∀ (n : Nat) (b : Array Nat), (List.replicate n #[c]).foldl (· ++ ·) b = b ++ (List.replicate n c).toArray
  | 0, b => by simp
  | n + 1, b => by
    rw [List.replicate_succ, List.foldl_cons, rep1 c n, List.replicate_succ]
    apply Array.toList_inj.mp
    simp
section
variable {X : Cx}
def rRepS : R2 := fun x y H Q => ∃ (c : Nat) (n : Int), x = .str (T [c]) ∧ y = .int n ∧ 2 ≤ n ∧ n ≤ 100000 ∧ Q (.str (T (List.replicate n.toNat c))) H
theorem op_repS : OpR X (binaryOp .Mult) rRepS := by
  intro pins s σ H x y v u Q I rx ry h
  obtain ⟨c, n, rfl, rfl, h1, h2, q⟩ := h
  obtain ⟨t, rfl⟩ := rx
  obtain ⟨t', rfl⟩ := ry
  have hlen : (T [c]).length = 1 := rfl
  refine PySem.P.mul_str ?_ ?_ ?_ ?_
  · rw [decide_eq_false (by omega), decide_eq_false (by omega)]; rfl
  · intro _ _
    rw [hlen]
    have : (2 ^ 63 - 1) / n ≥ 1 := Int.le_ediv_of_mul_le (by omega) (by omega)
    show ¬ (((1 : Nat) : Int) > (2 ^ 63 - 1) / n)
    omega
  · intro _ _
    rw [hlen]
    unfold Builtin.Str.tooLong
    exact decide_eq_false (by rw [sizeLine_eq]; omega)
  · rw [if_neg (by omega), hlen]
    have e1 : (n == 1 || (1 : Nat) == 0) = false := by
      have : (n == 1) = false := by simpa using (by omega : n ≠ 1)
      rw [this]; rfl
    rw [if_neg (by rw [e1]; exact Bool.false_ne_true)]
    have e2 : (⟨(List.replicate n.toNat (T [c]).cps).foldl (· ++ ·) #[]⟩ : Str) = T (List.replicate n.toNat c) := by
      show (⟨(List.replicate n.toNat #[c]).foldl (· ++ ·) #[]⟩ : Str) = _
      rw [rep1]
      simp
    rw [e2]
    exact ⟨by show (T (List.replicate n.toNat c)).length ≤ _; show (List.replicate n.toNat c).toArray.size ≤ _; rw [List.size_toArray, List.length_replicate, sizeLine_eq]; omega, .str (T (List.replicate n.toNat c)), H, I.tok _, ⟨_, rfl⟩, q⟩
end
end LX
namespace LX
open PySem PySem.Spec PyProof.Rows L2 NdefX
def CHA : List Nat := [32, 33, 34, 35, 36, 38, 39, 40, 41, 42, 43, 44, 45, 46, 47, 48, 49, 50, 51, 52, 53, 54, 55, 56, 57, 58, 59, 60, 61, 62, 63, 64, 65, 66, 67, 68, 69, 70, 71, 72, 73, 74, 75, 76, 77, 78, 79, 80, 81, 82, 83, 84, 85, 86, 87, 88, 89, 90, 91, 92, 93, 94, 95, 96]
def CHB : List Nat := [97, 98, 99, 100, 101, 102, 103, 104, 105, 106, 107, 108, 109, 110, 111, 112, 113, 114, 115, 116, 117, 118, 119, 120, 121, 122, 123, 124, 125, 126, 10]
def CHC : List Nat := [97, 98]
theorem e_CHA : PySem.Str.ofString " !\"#$&'()*+,-./0123456789:;<=>?@ABCDEFGHIJKLMNOPQRSTUVWXYZ[\\]^_`" = T CHA := by decide +kernel
theorem e_CHB : PySem.Str.ofString "abcdefghijklmnopqrstuvwxyz{|}~\n" = T CHB := by decide +kernel
theorem e_CHC : PySem.Str.ofString "ab" = T CHC := by decide +kernel
def top (i : Nat) : Stmt := PySem.Challenge.pw_saggar_k01_symbols_keep_numbers.main.body.getD i (.Pass ⟨0, 0, 0, 0⟩)
abbrev s_NoSymbol___init__ : Stmt := inClass (top 2) 0
abbrev N_NoSymbol___init__ : List Str := ["self", "limit"]
theorem ns_NoSymbol___init__ : NScope ["self", "limit", "__class__"] ["self", "limit"] ["__class__"] (defScope s_NoSymbol___init__) := nscope_by (by decide +kernel)
abbrev s_Symbols___init__ : Stmt := inClass (top 6) 0
abbrev N_Symbols___init__ : List Str := ["self", "most"]
theorem sc_Symbols___init__ : FnScope N_Symbols___init__ ["self", "most"] (defScope s_Symbols___init__) := ⟨rfl, rfl, rfl, by decide +kernel, rfl, by decide +kernel, by decide +kernel⟩
abbrev s_Symbols_count : Stmt := inClass (top 6) 1
abbrev N_Symbols_count : List Str := ["self"]
theorem sc_Symbols_count : FnScope N_Symbols_count ["self"] (defScope s_Symbols_count) := ⟨rfl, rfl, rfl, by decide +kernel, rfl, by decide +kernel, by decide +kernel⟩
abbrev s_Symbols_number : Stmt := inClass (top 6) 2
abbrev N_Symbols_number : List Str := ["self", "text"]
theorem sc_Symbols_number : FnScope N_Symbols_number ["self", "text"] (defScope s_Symbols_number) := ⟨rfl, rfl, rfl, by decide +kernel, rfl, by decide +kernel, by decide +kernel⟩
abbrev s_Symbols_knows : Stmt := inClass (top 6) 3
abbrev N_Symbols_knows : List Str := ["self", "text"]
theorem sc_Symbols_knows : FnScope N_Symbols_knows ["self", "text"] (defScope s_Symbols_knows) := ⟨rfl, rfl, rfl, by decide +kernel, rfl, by decide +kernel, by decide +kernel⟩
abbrev s_Symbols_text : Stmt := inClass (top 6) 4
abbrev N_Symbols_text : List Str := ["self", "number"]
theorem sc_Symbols_text : FnScope N_Symbols_text ["self", "number"] (defScope s_Symbols_text) := ⟨rfl, rfl, rfl, by decide +kernel, rfl, by decide +kernel, by decide +kernel⟩
abbrev s_Symbols_texts : Stmt := inClass (top 6) 5
abbrev N_Symbols_texts : List Str := ["self"]
theorem sc_Symbols_texts : FnScope N_Symbols_texts ["self"] (defScope s_Symbols_texts) := ⟨rfl, rfl, rfl, by decide +kernel, rfl, by decide +kernel, by decide +kernel⟩
abbrev s_Symbols_cut : Stmt := inClass (top 6) 6
abbrev N_Symbols_cut : List Str := ["self", "count", "text"]
theorem sc_Symbols_cut : FnScope N_Symbols_cut ["self", "count"] (defScope s_Symbols_cut) := ⟨rfl, rfl, rfl, by decide +kernel, rfl, by decide +kernel, by decide +kernel⟩
abbrev s__law_number : Stmt := top 8
abbrev N__law_number : List Str := ["_law_cell", "_law_k", "_law_mixed"]
theorem sc__law_number : FnScope N__law_number ["_law_cell", "_law_k"] (defScope s__law_number) := ⟨rfl, rfl, rfl, by decide +kernel, rfl, by decide +kernel, by decide +kernel⟩
abbrev s__law_text : Stmt := top 9
abbrev N__law_text : List Str := ["_law_x", "_law_chars", "_law_size", "_law_rest", "_law_text_here", "_law_k"]
theorem sc__law_text : FnScope N__law_text ["_law_x"] (defScope s__law_text) := ⟨rfl, rfl, rfl, by decide +kernel, rfl, by decide +kernel, by decide +kernel⟩
abbrev s__law_is : Stmt := top 10
abbrev N__law_is : List Str := ["_law_actual", "_law_due"]
theorem sc__law_is : FnScope N__law_is ["_law_actual", "_law_due"] (defScope s__law_is) := ⟨rfl, rfl, rfl, by decide +kernel, rfl, by decide +kernel, by decide +kernel⟩
abbrev s__law_asked : Stmt := top 11
abbrev N__law_asked : List Str := ["_law_symbols", "_law_texts", "_law_most", "_law_text_here", "_law_due", "e", "_law_told"]
theorem sc__law_asked : FnScope N__law_asked ["_law_symbols", "_law_texts", "_law_most", "_law_text_here"] (defScope s__law_asked) := ⟨rfl, rfl, rfl, by decide +kernel, rfl, by decide +kernel, by decide +kernel⟩
abbrev s__law_agrees : Stmt := top 12
abbrev N__law_agrees : List Str := ["_law_symbols", "_law_texts", "_law_told", "_law_k"]
theorem sc__law_agrees : FnScope N__law_agrees ["_law_symbols", "_law_texts"] (defScope s__law_agrees) := ⟨rfl, rfl, rfl, by decide +kernel, rfl, by decide +kernel, by decide +kernel⟩
abbrev s__law_deed : Stmt := top 13
abbrev N__law_deed : List Str := ["_law_symbols", "_law_texts", "_law_most", "_law_x", "_law_deed_here", "_law_rest", "_law_text_here", "_law_count", "_law_k"]
theorem sc__law_deed : FnScope N__law_deed ["_law_symbols", "_law_texts", "_law_most", "_law_x"] (defScope s__law_deed) := ⟨rfl, rfl, rfl, by decide +kernel, rfl, by decide +kernel, by decide +kernel⟩
abbrev s_law : Stmt := top 14
abbrev N_law : List Str := ["_law_script", "_law_cells", "_law_cell", "_law_limit", "_law_most", "_law_symbols", "_law_other", "_law_texts", "_law_k"]
theorem sc_law : FnScope N_law ["_law_script"] (defScope s_law) := ⟨rfl, rfl, rfl, by decide +kernel, rfl, by decide +kernel, by decide +kernel⟩
structure Wd (P : Program) (K : PySem.W.Frag) (mg : Str → Option Value) where
  n_ValueError : mg "ValueError" = none
  n_bool : mg "bool" = none
  n_int : mg "int" = none
  n_isinstance : mg "isinstance" = none
  n_len : mg "len" = none
  n_list : mg "list" = none
  n_range : mg "range" = none
  n_str : mg "str" = none
  t_MOST : Tok
  g_MOST : mg "MOST" = some (.int (100000) t_MOST)
  t_LONGEST : Tok
  g_LONGEST : mg "LONGEST" = some (.int (4000) t_LONGEST)
  c_SaggarError : Addr
  g_SaggarError : mg "SaggarError" = some (.ref c_SaggarError)
  c_NoSymbol : Addr
  g_NoSymbol : mg "NoSymbol" = some (.ref c_NoSymbol)
  c_Symbols : Addr
  g_Symbols : mg "Symbols" = some (.ref c_Symbols)
  C_Symbols : Cls K c_Symbols
  na_Symbols_most : NoAttr K c_Symbols "most"
  na_Symbols__texts : NoAttr K c_Symbols "_texts"
  na_Symbols__numbers : NoAttr K c_Symbols "_numbers"
  f_NoSymbol___init__ : Addr
  fd_NoSymbol___init__ : FuncData
  X_NoSymbol : OexC K c_NoSymbol
  i_NoSymbol : PySem.W.findIn K (.ref c_NoSymbol) "__init__" = some (some (.ref f_NoSymbol___init__)) ∧ PySem.W.typeIn K (.ref f_NoSymbol___init__) = some (.type "function")
  cc_NoSymbol : Addr
  cda_NoSymbol : Addr
  S_NoSymbol : SupTxt P K mg c_NoSymbol cda_NoSymbol cc_NoSymbol (defScope s_NoSymbol___init__)
  L_NoSymbol : ∃ oc od kV dc pm an ct osl, K.lookup f_NoSymbol___init__ = some ⟨oc, od, .func fd_NoSymbol___init__, osl⟩ ∧ fd_NoSymbol___init__ = PySem.W.fnX "__init__" "NoSymbol.__init__" (defArgs s_NoSymbol___init__) (defBody s_NoSymbol___init__) (defScope s_NoSymbol___init__) [("__class__", cc_NoSymbol)] .none kV dc pm an (.ref cda_NoSymbol) ct ∧ PySem.W.codeIn K (.ref cda_NoSymbol) "NoSymbol.__init__" = true
  E_NoSymbol : ExK K c_NoSymbol
  xn_NoSymbol_limit : PySem.W.findIn K (.ref c_NoSymbol) "limit" = some none
  b_NoSymbol___init__ : Binds K fd_NoSymbol___init__ ["self", "limit"] []
  f_Symbols___init__ : Addr
  fd_Symbols___init__ : FuncData
  FD_Symbols___init__ : FunD K "__init__" "Symbols.__init__" (defArgs s_Symbols___init__) (defBody s_Symbols___init__) (defScope s_Symbols___init__) [.int (100000)] [] f_Symbols___init__ fd_Symbols___init__
  bd_Symbols___init__ : ∃ ds, Vals [.int (100000)] ds ∧ Binds K fd_Symbols___init__ ["self", "most"] ds
  M_Symbols : Mk K c_Symbols f_Symbols___init__
  b_Symbols___init__ : Binds K fd_Symbols___init__ ["self", "most"] []
  f_Symbols_count : Addr
  fd_Symbols_count : FuncData
  F_Symbols_count : Fun K "count" "Symbols.count" s_Symbols_count f_Symbols_count fd_Symbols_count
  m_Symbols_count : Meth K c_Symbols "count" f_Symbols_count
  b_Symbols_count : Binds K fd_Symbols_count ["self"] []
  f_Symbols_number : Addr
  fd_Symbols_number : FuncData
  F_Symbols_number : Fun K "number" "Symbols.number" s_Symbols_number f_Symbols_number fd_Symbols_number
  m_Symbols_number : Meth K c_Symbols "number" f_Symbols_number
  b_Symbols_number : Binds K fd_Symbols_number ["self", "text"] []
  f_Symbols_knows : Addr
  fd_Symbols_knows : FuncData
  F_Symbols_knows : Fun K "knows" "Symbols.knows" s_Symbols_knows f_Symbols_knows fd_Symbols_knows
  m_Symbols_knows : Meth K c_Symbols "knows" f_Symbols_knows
  b_Symbols_knows : Binds K fd_Symbols_knows ["self", "text"] []
  f_Symbols_text : Addr
  fd_Symbols_text : FuncData
  F_Symbols_text : Fun K "text" "Symbols.text" s_Symbols_text f_Symbols_text fd_Symbols_text
  m_Symbols_text : Meth K c_Symbols "text" f_Symbols_text
  b_Symbols_text : Binds K fd_Symbols_text ["self", "number"] []
  f_Symbols_texts : Addr
  fd_Symbols_texts : FuncData
  F_Symbols_texts : Fun K "texts" "Symbols.texts" s_Symbols_texts f_Symbols_texts fd_Symbols_texts
  m_Symbols_texts : Meth K c_Symbols "texts" f_Symbols_texts
  b_Symbols_texts : Binds K fd_Symbols_texts ["self"] []
  f_Symbols_cut : Addr
  fd_Symbols_cut : FuncData
  F_Symbols_cut : Fun K "cut" "Symbols.cut" s_Symbols_cut f_Symbols_cut fd_Symbols_cut
  m_Symbols_cut : Meth K c_Symbols "cut" f_Symbols_cut
  b_Symbols_cut : Binds K fd_Symbols_cut ["self", "count"] []
  f__law_number : Addr
  fd__law_number : FuncData
  F__law_number : Fun K "_law_number" "_law_number" s__law_number f__law_number fd__law_number
  g__law_number : mg "_law_number" = some (.ref f__law_number)
  b__law_number : Binds K fd__law_number ["_law_cell", "_law_k"] []
  f__law_text : Addr
  fd__law_text : FuncData
  F__law_text : Fun K "_law_text" "_law_text" s__law_text f__law_text fd__law_text
  g__law_text : mg "_law_text" = some (.ref f__law_text)
  b__law_text : Binds K fd__law_text ["_law_x"] []
  f__law_is : Addr
  fd__law_is : FuncData
  F__law_is : Fun K "_law_is" "_law_is" s__law_is f__law_is fd__law_is
  g__law_is : mg "_law_is" = some (.ref f__law_is)
  b__law_is : Binds K fd__law_is ["_law_actual", "_law_due"] []
  f__law_asked : Addr
  fd__law_asked : FuncData
  F__law_asked : Fun K "_law_asked" "_law_asked" s__law_asked f__law_asked fd__law_asked
  g__law_asked : mg "_law_asked" = some (.ref f__law_asked)
  b__law_asked : Binds K fd__law_asked ["_law_symbols", "_law_texts", "_law_most", "_law_text_here"] []
  f__law_agrees : Addr
  fd__law_agrees : FuncData
  F__law_agrees : Fun K "_law_agrees" "_law_agrees" s__law_agrees f__law_agrees fd__law_agrees
  g__law_agrees : mg "_law_agrees" = some (.ref f__law_agrees)
  b__law_agrees : Binds K fd__law_agrees ["_law_symbols", "_law_texts"] []
  f__law_deed : Addr
  fd__law_deed : FuncData
  F__law_deed : Fun K "_law_deed" "_law_deed" s__law_deed f__law_deed fd__law_deed
  g__law_deed : mg "_law_deed" = some (.ref f__law_deed)
  b__law_deed : Binds K fd__law_deed ["_law_symbols", "_law_texts", "_law_most", "_law_x"] []
  f_law : Addr
  fd_law : FuncData
  F_law : Fun K "law" "law" s_law f_law fd_law
  g_law : mg "law" = some (.ref f_law)
  b_law : Binds K fd_law ["_law_script"] []
  kb_S : PySem.W.kitOne K (.ref c_NoSymbol) (.ref c_NoSymbol) = some true
  kb_V : PySem.W.kitOne K (.ref c_NoSymbol) (.type "ValueError") = some true
  em_S : PySem.W.exmOne K (.ref c_NoSymbol) (.ref c_SaggarError) = some true
def mkW {l : PySem.W.OpenLaw} {K : PySem.W.Frag} {h : Heap} {mg : Str → Option Value} (X : K.In h) (G : h.Ns mainGlobals mg)
    {t_MOST : Tok}
    {t_LONGEST : Tok}
    {C_SaggarError : Addr}
    {C_NoSymbol : Addr}
    {C_Symbols : Addr}
    {ocNoSymbol___init__ kVNoSymbol___init__ dcNoSymbol___init__ pmNoSymbol___init__ cdNoSymbol___init__ ctNoSymbol___init__ : Value} {odNoSymbol___init__ anNoSymbol___init__ : Option Addr} {slNoSymbol___init__ : Array (Option Value)} {fNoSymbol___init__ : Addr}
    {cdaNoSymbol___init__ ccNoSymbol___init__ : Addr} {cclNoSymbol___init__ coNoSymbol___init__ : Value} {cddNoSymbol___init__ cldNoSymbol___init__ : Option Addr} {vsNoSymbol___init__ : Array Value} {ccsNoSymbol___init__ cslNoSymbol___init__ : Array (Option Value)} {fileNoSymbol___init__ : Str} {tfNoSymbol___init__ : Tok}
    {nmNoSymbol qNoSymbol : Str} {NNoSymbol : Addr} {bsNoSymbol bmNoSymbol : List Value} {snNoSymbol : List Str} {subNoSymbol : List Value} {abNoSymbol : Bool} {colNoSymbol : Option Bool} {ddNoSymbol : Option Addr} {m0NoSymbol m1NoSymbol m2NoSymbol m3NoSymbol m5NoSymbol : Option Value}
    {ocSymbols___init__ kVSymbols___init__ dcSymbols___init__ pmSymbols___init__ cdSymbols___init__ ctSymbols___init__ : Value} {odSymbols___init__ anSymbols___init__ : Option Addr} {slSymbols___init__ : Array (Option Value)} {fSymbols___init__ : Addr}
    {dTSymbols___init__ : Addr} {dOSymbols___init__ : Value} {dDSymbols___init__ : Option Addr} {dnSymbols___init__ : Nat} {dSSymbols___init__ : Array (Option Value)} {dtSymbols___init___0 : Tok}
    {ocSymbols_count kVSymbols_count dcSymbols_count pmSymbols_count cdSymbols_count ctSymbols_count : Value} {odSymbols_count anSymbols_count : Option Addr} {slSymbols_count : Array (Option Value)} {fSymbols_count : Addr}
    {ocSymbols_number kVSymbols_number dcSymbols_number pmSymbols_number cdSymbols_number ctSymbols_number : Value} {odSymbols_number anSymbols_number : Option Addr} {slSymbols_number : Array (Option Value)} {fSymbols_number : Addr}
    {ocSymbols_knows kVSymbols_knows dcSymbols_knows pmSymbols_knows cdSymbols_knows ctSymbols_knows : Value} {odSymbols_knows anSymbols_knows : Option Addr} {slSymbols_knows : Array (Option Value)} {fSymbols_knows : Addr}
    {ocSymbols_text kVSymbols_text dcSymbols_text pmSymbols_text cdSymbols_text ctSymbols_text : Value} {odSymbols_text anSymbols_text : Option Addr} {slSymbols_text : Array (Option Value)} {fSymbols_text : Addr}
    {ocSymbols_texts kVSymbols_texts dcSymbols_texts pmSymbols_texts cdSymbols_texts ctSymbols_texts : Value} {odSymbols_texts anSymbols_texts : Option Addr} {slSymbols_texts : Array (Option Value)} {fSymbols_texts : Addr}
    {ocSymbols_cut kVSymbols_cut dcSymbols_cut pmSymbols_cut cdSymbols_cut ctSymbols_cut : Value} {odSymbols_cut anSymbols_cut : Option Addr} {slSymbols_cut : Array (Option Value)} {fSymbols_cut : Addr}
    {oc_law_number kV_law_number dc_law_number pm_law_number cd_law_number ct_law_number : Value} {od_law_number an_law_number : Option Addr} {sl_law_number : Array (Option Value)} {f_law_number : Addr}
    {oc_law_text kV_law_text dc_law_text pm_law_text cd_law_text ct_law_text : Value} {od_law_text an_law_text : Option Addr} {sl_law_text : Array (Option Value)} {f_law_text : Addr}
    {oc_law_is kV_law_is dc_law_is pm_law_is cd_law_is ct_law_is : Value} {od_law_is an_law_is : Option Addr} {sl_law_is : Array (Option Value)} {f_law_is : Addr}
    {oc_law_asked kV_law_asked dc_law_asked pm_law_asked cd_law_asked ct_law_asked : Value} {od_law_asked an_law_asked : Option Addr} {sl_law_asked : Array (Option Value)} {f_law_asked : Addr}
    {oc_law_agrees kV_law_agrees dc_law_agrees pm_law_agrees cd_law_agrees ct_law_agrees : Value} {od_law_agrees an_law_agrees : Option Addr} {sl_law_agrees : Array (Option Value)} {f_law_agrees : Addr}
    {oc_law_deed kV_law_deed dc_law_deed pm_law_deed cd_law_deed ct_law_deed : Value} {od_law_deed an_law_deed : Option Addr} {sl_law_deed : Array (Option Value)} {f_law_deed : Addr}
    {oclaw kVlaw dclaw pmlaw cdlaw ctlaw : Value} {odlaw anlaw : Option Addr} {sllaw : Array (Option Value)} {flaw : Addr}
    (z_third : PySem.W.nsIn K cStatics "thirdparty.any" = some none) (z_super : PySem.W.nsIn K mainGlobals "super" = some none) (z_top : (l.prog.main.scope.names.lookup ("super" : Str)).isSome = false)
    (z_sg : PySem.W.specialIn K (.builtin "object.__class__") "__get__" = some (some (.builtin "getset_descriptor.__get__"))) (z_st : PySem.W.takesIn K (.builtin "object.__class__") = some true)
    (z_ValueError : PySem.W.nsIn K mainGlobals "ValueError" = some none)
    (z_bool : PySem.W.nsIn K mainGlobals "bool" = some none)
    (z_int : PySem.W.nsIn K mainGlobals "int" = some none)
    (z_isinstance : PySem.W.nsIn K mainGlobals "isinstance" = some none)
    (z_len : PySem.W.nsIn K mainGlobals "len" = some none)
    (z_list : PySem.W.nsIn K mainGlobals "list" = some none)
    (z_range : PySem.W.nsIn K mainGlobals "range" = some none)
    (z_str : PySem.W.nsIn K mainGlobals "str" = some none)
    (c_MOST : PySem.W.nsIn K mainGlobals "MOST" = some (some (.int (100000) t_MOST)))
    (c_LONGEST : PySem.W.nsIn K mainGlobals "LONGEST" = some (some (.int (4000) t_LONGEST)))
    (cl_SaggarError : PySem.W.nsIn K mainGlobals "SaggarError" = some (some (.ref C_SaggarError)))
    (cl_NoSymbol : PySem.W.nsIn K mainGlobals "NoSymbol" = some (some (.ref C_NoSymbol)))
    (cl_Symbols : PySem.W.nsIn K mainGlobals "Symbols" = some (some (.ref C_Symbols)))
    (pg_Symbols : PySem.W.plainGet K C_Symbols Str.empty = true)
    (hd_Symbols : PySem.W.hasDictIn K C_Symbols = true)
    (po_Symbols : PySem.W.plainOver K C_Symbols = true)
    (sa_Symbols : PySem.W.findIn K (.ref C_Symbols) "__setattr__" = some (some (.builtin "object.__setattr__")))
    (mk_Symbols : PySem.W.makesIn K C_Symbols = true)
    (kp_Symbols : PySem.W.keepIn K (.ref C_Symbols) = true)
    (na_Symbols_most : PySem.W.findIn K (.ref C_Symbols) "most" = some none)
    (na_Symbols__texts : PySem.W.findIn K (.ref C_Symbols) "_texts" = some none)
    (na_Symbols__numbers : PySem.W.findIn K (.ref C_Symbols) "_numbers" = some none)
    (a_NoSymbol___init__ : PySem.W.findIn K (.ref C_NoSymbol) "__init__" = some (some (.ref fNoSymbol___init__)))
    (l_NoSymbol___init__ : K.lookup fNoSymbol___init__ = some ⟨ocNoSymbol___init__, odNoSymbol___init__, .func (PySem.W.fnX "__init__" "NoSymbol.__init__" (defArgs s_NoSymbol___init__) (defBody s_NoSymbol___init__) (defScope s_NoSymbol___init__) [("__class__", ccNoSymbol___init__)] .none kVNoSymbol___init__ dcNoSymbol___init__ pmNoSymbol___init__ anNoSymbol___init__ (.ref cdaNoSymbol___init__) ctNoSymbol___init__), slNoSymbol___init__⟩)
    (c_NoSymbol___init__ : PySem.W.codeIn K (.ref cdaNoSymbol___init__) "NoSymbol.__init__" = true)
    (k_NoSymbol___init__ : PySem.W.typeIn K (.ref fNoSymbol___init__) = some (.type "function"))
    (x1_NoSymbol___init__ : K.lookup cdaNoSymbol___init__ = some ⟨cclNoSymbol___init__, cddNoSymbol___init__, .fields vsNoSymbol___init__, ccsNoSymbol___init__⟩)
    (x2_NoSymbol___init__ : vsNoSymbol___init__[2]? = some (.str fileNoSymbol___init__ tfNoSymbol___init__))
    (x3_NoSymbol___init__ : ((l.prog.main.file : Str) == fileNoSymbol___init__) = true)
    (x4_NoSymbol___init__ : K.lookup ccNoSymbol___init__ = some ⟨coNoSymbol___init__, cldNoSymbol___init__, .cell (some (.ref C_NoSymbol)), cslNoSymbol___init__⟩)
    (xl_NoSymbol : K.lookup C_NoSymbol = some (excClassObj nmNoSymbol qNoSymbol C_NoSymbol NNoSymbol bsNoSymbol bmNoSymbol true snNoSymbol subNoSymbol abNoSymbol colNoSymbol ddNoSymbol m0NoSymbol m1NoSymbol m2NoSymbol m3NoSymbol m5NoSymbol "ValueError.__new__"))
    (xr_NoSymbol : PySem.HandSPX.refsVE bmNoSymbol = true)
    (xs_NoSymbol : PySem.W.findIn K (.ref C_NoSymbol) "__setattr__" = some (some (.builtin "object.__setattr__")))
    (xe_NoSymbol : PySem.W.subIn K (.ref C_NoSymbol) (.type "BaseException") = some true)
    (xt_NoSymbol : PySem.W.typeIn K (.ref C_NoSymbol) = some (.type "type"))
    (xk_NoSymbol : PySem.W.keepIn K (.ref C_NoSymbol) = true)
    (xm_NoSymbol : PySem.W.mroIn K C_NoSymbol (.ref C_NoSymbol) = some true)
    (xi_NoSymbol : PySem.W.ks_superIn K C_NoSymbol C_NoSymbol "__init__" = some (some (.builtin "ValueError.__init__")))
    (xb_NoSymbol : PySem.W.subIn K (.ref C_NoSymbol) (.type "ValueError") = some true)
    (eg_NoSymbol : PySem.W.findIn K (.ref C_NoSymbol) "__getattribute__" = some (some (.builtin "BaseException.__getattribute__")))
    (ek_NoSymbol : PySem.W.findIn K (.ref C_NoSymbol) "__getattr__" = some none)
    (ed_NoSymbol : PySem.W.hasDictIn K C_NoSymbol = true)
    (ea_NoSymbol : PySem.W.findIn K (.ref C_NoSymbol) "__class__" = some (some (.builtin "object.__class__")))
    (em_NoSymbol : PySem.W.mroIn K C_NoSymbol (.type "object") = some true)
    (xn_NoSymbol_limit : PySem.W.findIn K (.ref C_NoSymbol) "limit" = some none)
    (a_Symbols___init__ : PySem.W.findIn K (.ref C_Symbols) "__init__" = some (some (.ref fSymbols___init__)))
    (l_Symbols___init__ : K.lookup fSymbols___init__ = some ⟨ocSymbols___init__, odSymbols___init__, .func (PySem.W.fnOf "__init__" "Symbols.__init__" (defArgs s_Symbols___init__) (defBody s_Symbols___init__) (defScope s_Symbols___init__) (.ref dTSymbols___init__) kVSymbols___init__ dcSymbols___init__ pmSymbols___init__ anSymbols___init__ cdSymbols___init__ ctSymbols___init__), slSymbols___init__⟩)
    (dl_Symbols___init__ : K.lookup dTSymbols___init__ = some ⟨dOSymbols___init__, dDSymbols___init__, .seq ([.int (100000) dtSymbols___init___0] : List Value).toArray dnSymbols___init__, dSSymbols___init__⟩)
    (c_Symbols___init__ : PySem.W.codeIn K cdSymbols___init__ "Symbols.__init__" = true)
    (k_Symbols___init__ : PySem.W.keepIn K (.ref fSymbols___init__) = true)
    (fn_Symbols___init__ : PySem.W.isFn K (.ref fSymbols___init__) = true)
    (a_Symbols_count : PySem.W.findIn K (.ref C_Symbols) "count" = some (some (.ref fSymbols_count)))
    (l_Symbols_count : K.lookup fSymbols_count = some ⟨ocSymbols_count, odSymbols_count, .func (PySem.W.fnOf "count" "Symbols.count" (defArgs s_Symbols_count) (defBody s_Symbols_count) (defScope s_Symbols_count) .none kVSymbols_count dcSymbols_count pmSymbols_count anSymbols_count cdSymbols_count ctSymbols_count), slSymbols_count⟩)
    (c_Symbols_count : PySem.W.codeIn K cdSymbols_count "Symbols.count" = true)
    (k_Symbols_count : PySem.W.keepIn K (.ref fSymbols_count) = true)
    (fn_Symbols_count : PySem.W.isFn K (.ref fSymbols_count) = true)
    (a_Symbols_number : PySem.W.findIn K (.ref C_Symbols) "number" = some (some (.ref fSymbols_number)))
    (l_Symbols_number : K.lookup fSymbols_number = some ⟨ocSymbols_number, odSymbols_number, .func (PySem.W.fnOf "number" "Symbols.number" (defArgs s_Symbols_number) (defBody s_Symbols_number) (defScope s_Symbols_number) .none kVSymbols_number dcSymbols_number pmSymbols_number anSymbols_number cdSymbols_number ctSymbols_number), slSymbols_number⟩)
    (c_Symbols_number : PySem.W.codeIn K cdSymbols_number "Symbols.number" = true)
    (k_Symbols_number : PySem.W.keepIn K (.ref fSymbols_number) = true)
    (fn_Symbols_number : PySem.W.isFn K (.ref fSymbols_number) = true)
    (a_Symbols_knows : PySem.W.findIn K (.ref C_Symbols) "knows" = some (some (.ref fSymbols_knows)))
    (l_Symbols_knows : K.lookup fSymbols_knows = some ⟨ocSymbols_knows, odSymbols_knows, .func (PySem.W.fnOf "knows" "Symbols.knows" (defArgs s_Symbols_knows) (defBody s_Symbols_knows) (defScope s_Symbols_knows) .none kVSymbols_knows dcSymbols_knows pmSymbols_knows anSymbols_knows cdSymbols_knows ctSymbols_knows), slSymbols_knows⟩)
    (c_Symbols_knows : PySem.W.codeIn K cdSymbols_knows "Symbols.knows" = true)
    (k_Symbols_knows : PySem.W.keepIn K (.ref fSymbols_knows) = true)
    (fn_Symbols_knows : PySem.W.isFn K (.ref fSymbols_knows) = true)
    (a_Symbols_text : PySem.W.findIn K (.ref C_Symbols) "text" = some (some (.ref fSymbols_text)))
    (l_Symbols_text : K.lookup fSymbols_text = some ⟨ocSymbols_text, odSymbols_text, .func (PySem.W.fnOf "text" "Symbols.text" (defArgs s_Symbols_text) (defBody s_Symbols_text) (defScope s_Symbols_text) .none kVSymbols_text dcSymbols_text pmSymbols_text anSymbols_text cdSymbols_text ctSymbols_text), slSymbols_text⟩)
    (c_Symbols_text : PySem.W.codeIn K cdSymbols_text "Symbols.text" = true)
    (k_Symbols_text : PySem.W.keepIn K (.ref fSymbols_text) = true)
    (fn_Symbols_text : PySem.W.isFn K (.ref fSymbols_text) = true)
    (a_Symbols_texts : PySem.W.findIn K (.ref C_Symbols) "texts" = some (some (.ref fSymbols_texts)))
    (l_Symbols_texts : K.lookup fSymbols_texts = some ⟨ocSymbols_texts, odSymbols_texts, .func (PySem.W.fnOf "texts" "Symbols.texts" (defArgs s_Symbols_texts) (defBody s_Symbols_texts) (defScope s_Symbols_texts) .none kVSymbols_texts dcSymbols_texts pmSymbols_texts anSymbols_texts cdSymbols_texts ctSymbols_texts), slSymbols_texts⟩)
    (c_Symbols_texts : PySem.W.codeIn K cdSymbols_texts "Symbols.texts" = true)
    (k_Symbols_texts : PySem.W.keepIn K (.ref fSymbols_texts) = true)
    (fn_Symbols_texts : PySem.W.isFn K (.ref fSymbols_texts) = true)
    (a_Symbols_cut : PySem.W.findIn K (.ref C_Symbols) "cut" = some (some (.ref fSymbols_cut)))
    (l_Symbols_cut : K.lookup fSymbols_cut = some ⟨ocSymbols_cut, odSymbols_cut, .func (PySem.W.fnOf "cut" "Symbols.cut" (defArgs s_Symbols_cut) (defBody s_Symbols_cut) (defScope s_Symbols_cut) .none kVSymbols_cut dcSymbols_cut pmSymbols_cut anSymbols_cut cdSymbols_cut ctSymbols_cut), slSymbols_cut⟩)
    (c_Symbols_cut : PySem.W.codeIn K cdSymbols_cut "Symbols.cut" = true)
    (k_Symbols_cut : PySem.W.keepIn K (.ref fSymbols_cut) = true)
    (fn_Symbols_cut : PySem.W.isFn K (.ref fSymbols_cut) = true)
    (a__law_number : PySem.W.nsIn K mainGlobals "_law_number" = some (some (.ref f_law_number)))
    (l__law_number : K.lookup f_law_number = some ⟨oc_law_number, od_law_number, .func (PySem.W.fnOf "_law_number" "_law_number" (defArgs s__law_number) (defBody s__law_number) (defScope s__law_number) .none kV_law_number dc_law_number pm_law_number an_law_number cd_law_number ct_law_number), sl_law_number⟩)
    (c__law_number : PySem.W.codeIn K cd_law_number "_law_number" = true)
    (k__law_number : PySem.W.keepIn K (.ref f_law_number) = true)
    (a__law_text : PySem.W.nsIn K mainGlobals "_law_text" = some (some (.ref f_law_text)))
    (l__law_text : K.lookup f_law_text = some ⟨oc_law_text, od_law_text, .func (PySem.W.fnOf "_law_text" "_law_text" (defArgs s__law_text) (defBody s__law_text) (defScope s__law_text) .none kV_law_text dc_law_text pm_law_text an_law_text cd_law_text ct_law_text), sl_law_text⟩)
    (c__law_text : PySem.W.codeIn K cd_law_text "_law_text" = true)
    (k__law_text : PySem.W.keepIn K (.ref f_law_text) = true)
    (a__law_is : PySem.W.nsIn K mainGlobals "_law_is" = some (some (.ref f_law_is)))
    (l__law_is : K.lookup f_law_is = some ⟨oc_law_is, od_law_is, .func (PySem.W.fnOf "_law_is" "_law_is" (defArgs s__law_is) (defBody s__law_is) (defScope s__law_is) .none kV_law_is dc_law_is pm_law_is an_law_is cd_law_is ct_law_is), sl_law_is⟩)
    (c__law_is : PySem.W.codeIn K cd_law_is "_law_is" = true)
    (k__law_is : PySem.W.keepIn K (.ref f_law_is) = true)
    (a__law_asked : PySem.W.nsIn K mainGlobals "_law_asked" = some (some (.ref f_law_asked)))
    (l__law_asked : K.lookup f_law_asked = some ⟨oc_law_asked, od_law_asked, .func (PySem.W.fnOf "_law_asked" "_law_asked" (defArgs s__law_asked) (defBody s__law_asked) (defScope s__law_asked) .none kV_law_asked dc_law_asked pm_law_asked an_law_asked cd_law_asked ct_law_asked), sl_law_asked⟩)
    (c__law_asked : PySem.W.codeIn K cd_law_asked "_law_asked" = true)
    (k__law_asked : PySem.W.keepIn K (.ref f_law_asked) = true)
    (a__law_agrees : PySem.W.nsIn K mainGlobals "_law_agrees" = some (some (.ref f_law_agrees)))
    (l__law_agrees : K.lookup f_law_agrees = some ⟨oc_law_agrees, od_law_agrees, .func (PySem.W.fnOf "_law_agrees" "_law_agrees" (defArgs s__law_agrees) (defBody s__law_agrees) (defScope s__law_agrees) .none kV_law_agrees dc_law_agrees pm_law_agrees an_law_agrees cd_law_agrees ct_law_agrees), sl_law_agrees⟩)
    (c__law_agrees : PySem.W.codeIn K cd_law_agrees "_law_agrees" = true)
    (k__law_agrees : PySem.W.keepIn K (.ref f_law_agrees) = true)
    (a__law_deed : PySem.W.nsIn K mainGlobals "_law_deed" = some (some (.ref f_law_deed)))
    (l__law_deed : K.lookup f_law_deed = some ⟨oc_law_deed, od_law_deed, .func (PySem.W.fnOf "_law_deed" "_law_deed" (defArgs s__law_deed) (defBody s__law_deed) (defScope s__law_deed) .none kV_law_deed dc_law_deed pm_law_deed an_law_deed cd_law_deed ct_law_deed), sl_law_deed⟩)
    (c__law_deed : PySem.W.codeIn K cd_law_deed "_law_deed" = true)
    (k__law_deed : PySem.W.keepIn K (.ref f_law_deed) = true)
    (a_law : PySem.W.nsIn K mainGlobals "law" = some (some (.ref flaw)))
    (l_law : K.lookup flaw = some ⟨oclaw, odlaw, .func (PySem.W.fnOf "law" "law" (defArgs s_law) (defBody s_law) (defScope s_law) .none kVlaw dclaw pmlaw anlaw cdlaw ctlaw), sllaw⟩)
    (c_law : PySem.W.codeIn K cdlaw "law" = true)
    (k_law : PySem.W.keepIn K (.ref flaw) = true)
    (qkb_S : PySem.W.kitOne K (.ref C_NoSymbol) (.ref C_NoSymbol) = some true)
    (qkb_V : PySem.W.kitOne K (.ref C_NoSymbol) (.type "ValueError") = some true)
    (qem_S : PySem.W.exmOne K (.ref C_NoSymbol) (.ref C_SaggarError) = some true) : Wd l.prog K mg :=
  { n_ValueError := PySem.W.mg_none_of X G z_ValueError,
    n_bool := PySem.W.mg_none_of X G z_bool,
    n_int := PySem.W.mg_none_of X G z_int,
    n_isinstance := PySem.W.mg_none_of X G z_isinstance,
    n_len := PySem.W.mg_none_of X G z_len,
    n_list := PySem.W.mg_none_of X G z_list,
    n_range := PySem.W.mg_none_of X G z_range,
    n_str := PySem.W.mg_none_of X G z_str,
    t_MOST := t_MOST, g_MOST := PySem.W.mg_of X G c_MOST,
    t_LONGEST := t_LONGEST, g_LONGEST := PySem.W.mg_of X G c_LONGEST,
    c_SaggarError := C_SaggarError, g_SaggarError := PySem.W.mg_of X G cl_SaggarError,
    c_NoSymbol := C_NoSymbol, g_NoSymbol := PySem.W.mg_of X G cl_NoSymbol,
    c_Symbols := C_Symbols, g_Symbols := PySem.W.mg_of X G cl_Symbols,
    C_Symbols := ⟨pg_Symbols, hd_Symbols, po_Symbols, sa_Symbols⟩,
    na_Symbols_most := na_Symbols_most,
    na_Symbols__texts := na_Symbols__texts,
    na_Symbols__numbers := na_Symbols__numbers,
    X_NoSymbol := ⟨⟨_, _, _, _, _, _, _, _, _, _, _, _, _, _, _, xl_NoSymbol, xr_NoSymbol⟩, xs_NoSymbol, xe_NoSymbol, xt_NoSymbol, xk_NoSymbol⟩,
    i_NoSymbol := ⟨a_NoSymbol___init__, k_NoSymbol___init__⟩,
    cc_NoSymbol := ccNoSymbol___init__, cda_NoSymbol := cdaNoSymbol___init__,
    S_NoSymbol := { ox := ⟨⟨_, _, _, _, _, _, _, _, _, _, _, _, _, _, _, xl_NoSymbol, xr_NoSymbol⟩, xs_NoSymbol, xe_NoSymbol, xt_NoSymbol, xk_NoSymbol⟩, code := ⟨_, _, _, _, _, _, x1_NoSymbol___init__, x2_NoSymbol___init__, x3_NoSymbol___init__⟩, cell := ⟨_, _, _, x4_NoSymbol___init__⟩, cls := ⟨_, by unfold PySem.W.clsIn; rw [xl_NoSymbol] <;> rfl⟩, sub := xm_NoSymbol, init := xi_NoSymbol, isB := xb_NoSymbol, third := z_third, mgS := PySem.W.mg_none_of X G z_super, hks := by decide +kernel, hkc := by decide +kernel, htop := z_top },
    f_NoSymbol___init__ := fNoSymbol___init__, fd_NoSymbol___init__ := _, L_NoSymbol := ⟨_, _, _, _, _, _, _, _, l_NoSymbol___init__, rfl, c_NoSymbol___init__⟩,
    E_NoSymbol := ⟨⟨⟨_, _, _, _, _, _, _, _, _, _, _, _, _, _, _, xl_NoSymbol, xr_NoSymbol⟩, xs_NoSymbol, xe_NoSymbol, xt_NoSymbol, xk_NoSymbol⟩, eg_NoSymbol, ek_NoSymbol, ed_NoSymbol, ea_NoSymbol, z_sg, z_st, em_NoSymbol⟩,
    xn_NoSymbol_limit := xn_NoSymbol_limit,
    b_NoSymbol___init__ := .all fun us hl => match us, hl with | [_, _], _ => rfl,
    f_Symbols___init__ := fSymbols___init__, fd_Symbols___init__ := _, FD_Symbols___init__ := (⟨⟨_, _, _, _, _, _, _, _, _, _, rfl, l_Symbols___init__, c_Symbols___init__, Or.inr ⟨by simp, _, _, _, _, rfl, dl_Symbols___init__, rfl, (.cons ⟨_, rfl⟩ .nil)⟩, Or.inl rfl⟩, k_Symbols___init__⟩ : FunD K "__init__" "Symbols.__init__" (defArgs s_Symbols___init__) (defBody s_Symbols___init__) (defScope s_Symbols___init__) [.int (100000)] [] fSymbols___init__ _),
    bd_Symbols___init__ := (⟨⟨_, _, _, _, _, _, _, _, _, _, rfl, l_Symbols___init__, c_Symbols___init__, Or.inr ⟨by simp, _, _, _, _, rfl, dl_Symbols___init__, rfl, (.cons ⟨_, rfl⟩ .nil)⟩, Or.inl rfl⟩, k_Symbols___init__⟩ : FunD K "__init__" "Symbols.__init__" (defArgs s_Symbols___init__) (defBody s_Symbols___init__) (defScope s_Symbols___init__) [.int (100000)] [] fSymbols___init__ _).binds1 1 0 (by simp) rfl (fun T kV doc pm an cdv ct us its h1 h2 => match us, h1, its, h2 with | [_], _, [_], _ => ⟨_, rfl, by first | rfl | with_unfolding_all rfl | kernel_rfl⟩),
    M_Symbols := ⟨mk_Symbols, a_Symbols___init__, fn_Symbols___init__, kp_Symbols⟩,
    b_Symbols___init__ := by obtain ⟨ds, v, b⟩ := (⟨⟨_, _, _, _, _, _, _, _, _, _, rfl, l_Symbols___init__, c_Symbols___init__, Or.inr ⟨by simp, _, _, _, _, rfl, dl_Symbols___init__, rfl, (.cons ⟨_, rfl⟩ .nil)⟩, Or.inl rfl⟩, k_Symbols___init__⟩ : FunD K "__init__" "Symbols.__init__" (defArgs s_Symbols___init__) (defBody s_Symbols___init__) (defScope s_Symbols___init__) [.int (100000)] [] fSymbols___init__ _).binds1 (ps := ["self", "most"]) 2 1 (by simp) rfl (fun T kV doc pm an cdv ct us its h1 h2 => match us, h1, its, h2 with | [_, _], _, [_], _ => ⟨_, rfl, by first | rfl | with_unfolding_all rfl | kernel_rfl⟩); cases v; exact b,
    f_Symbols_count := fSymbols_count, fd_Symbols_count := _, F_Symbols_count := fun_mk (st := s_Symbols_count) l_Symbols_count c_Symbols_count k_Symbols_count,
    m_Symbols_count := ⟨a_Symbols_count, fn_Symbols_count, k_Symbols_count⟩,
    b_Symbols_count := (fun_mk (st := s_Symbols_count) l_Symbols_count c_Symbols_count k_Symbols_count).binds (ps := ["self"]) fun _ _ _ _ _ _ us hl => match us, hl with | [_], _ => rfl,
    f_Symbols_number := fSymbols_number, fd_Symbols_number := _, F_Symbols_number := fun_mk (st := s_Symbols_number) l_Symbols_number c_Symbols_number k_Symbols_number,
    m_Symbols_number := ⟨a_Symbols_number, fn_Symbols_number, k_Symbols_number⟩,
    b_Symbols_number := (fun_mk (st := s_Symbols_number) l_Symbols_number c_Symbols_number k_Symbols_number).binds (ps := ["self", "text"]) fun _ _ _ _ _ _ us hl => match us, hl with | [_, _], _ => rfl,
    f_Symbols_knows := fSymbols_knows, fd_Symbols_knows := _, F_Symbols_knows := fun_mk (st := s_Symbols_knows) l_Symbols_knows c_Symbols_knows k_Symbols_knows,
    m_Symbols_knows := ⟨a_Symbols_knows, fn_Symbols_knows, k_Symbols_knows⟩,
    b_Symbols_knows := (fun_mk (st := s_Symbols_knows) l_Symbols_knows c_Symbols_knows k_Symbols_knows).binds (ps := ["self", "text"]) fun _ _ _ _ _ _ us hl => match us, hl with | [_, _], _ => rfl,
    f_Symbols_text := fSymbols_text, fd_Symbols_text := _, F_Symbols_text := fun_mk (st := s_Symbols_text) l_Symbols_text c_Symbols_text k_Symbols_text,
    m_Symbols_text := ⟨a_Symbols_text, fn_Symbols_text, k_Symbols_text⟩,
    b_Symbols_text := (fun_mk (st := s_Symbols_text) l_Symbols_text c_Symbols_text k_Symbols_text).binds (ps := ["self", "number"]) fun _ _ _ _ _ _ us hl => match us, hl with | [_, _], _ => rfl,
    f_Symbols_texts := fSymbols_texts, fd_Symbols_texts := _, F_Symbols_texts := fun_mk (st := s_Symbols_texts) l_Symbols_texts c_Symbols_texts k_Symbols_texts,
    m_Symbols_texts := ⟨a_Symbols_texts, fn_Symbols_texts, k_Symbols_texts⟩,
    b_Symbols_texts := (fun_mk (st := s_Symbols_texts) l_Symbols_texts c_Symbols_texts k_Symbols_texts).binds (ps := ["self"]) fun _ _ _ _ _ _ us hl => match us, hl with | [_], _ => rfl,
    f_Symbols_cut := fSymbols_cut, fd_Symbols_cut := _, F_Symbols_cut := fun_mk (st := s_Symbols_cut) l_Symbols_cut c_Symbols_cut k_Symbols_cut,
    m_Symbols_cut := ⟨a_Symbols_cut, fn_Symbols_cut, k_Symbols_cut⟩,
    b_Symbols_cut := (fun_mk (st := s_Symbols_cut) l_Symbols_cut c_Symbols_cut k_Symbols_cut).binds (ps := ["self", "count"]) fun _ _ _ _ _ _ us hl => match us, hl with | [_, _], _ => rfl,
    f__law_number := f_law_number, fd__law_number := _, F__law_number := fun_mk (st := s__law_number) l__law_number c__law_number k__law_number,
    g__law_number := PySem.W.mg_of X G a__law_number,
    b__law_number := (fun_mk (st := s__law_number) l__law_number c__law_number k__law_number).binds (ps := ["_law_cell", "_law_k"]) fun _ _ _ _ _ _ us hl => match us, hl with | [_, _], _ => rfl,
    f__law_text := f_law_text, fd__law_text := _, F__law_text := fun_mk (st := s__law_text) l__law_text c__law_text k__law_text,
    g__law_text := PySem.W.mg_of X G a__law_text,
    b__law_text := (fun_mk (st := s__law_text) l__law_text c__law_text k__law_text).binds (ps := ["_law_x"]) fun _ _ _ _ _ _ us hl => match us, hl with | [_], _ => rfl,
    f__law_is := f_law_is, fd__law_is := _, F__law_is := fun_mk (st := s__law_is) l__law_is c__law_is k__law_is,
    g__law_is := PySem.W.mg_of X G a__law_is,
    b__law_is := (fun_mk (st := s__law_is) l__law_is c__law_is k__law_is).binds (ps := ["_law_actual", "_law_due"]) fun _ _ _ _ _ _ us hl => match us, hl with | [_, _], _ => rfl,
    f__law_asked := f_law_asked, fd__law_asked := _, F__law_asked := fun_mk (st := s__law_asked) l__law_asked c__law_asked k__law_asked,
    g__law_asked := PySem.W.mg_of X G a__law_asked,
    b__law_asked := (fun_mk (st := s__law_asked) l__law_asked c__law_asked k__law_asked).binds (ps := ["_law_symbols", "_law_texts", "_law_most", "_law_text_here"]) fun _ _ _ _ _ _ us hl => match us, hl with | [_, _, _, _], _ => rfl,
    f__law_agrees := f_law_agrees, fd__law_agrees := _, F__law_agrees := fun_mk (st := s__law_agrees) l__law_agrees c__law_agrees k__law_agrees,
    g__law_agrees := PySem.W.mg_of X G a__law_agrees,
    b__law_agrees := (fun_mk (st := s__law_agrees) l__law_agrees c__law_agrees k__law_agrees).binds (ps := ["_law_symbols", "_law_texts"]) fun _ _ _ _ _ _ us hl => match us, hl with | [_, _], _ => rfl,
    f__law_deed := f_law_deed, fd__law_deed := _, F__law_deed := fun_mk (st := s__law_deed) l__law_deed c__law_deed k__law_deed,
    g__law_deed := PySem.W.mg_of X G a__law_deed,
    b__law_deed := (fun_mk (st := s__law_deed) l__law_deed c__law_deed k__law_deed).binds (ps := ["_law_symbols", "_law_texts", "_law_most", "_law_x"]) fun _ _ _ _ _ _ us hl => match us, hl with | [_, _, _, _], _ => rfl,
    f_law := flaw, fd_law := _, F_law := fun_mk (st := s_law) l_law c_law k_law,
    g_law := PySem.W.mg_of X G a_law,
    b_law := (fun_mk (st := s_law) l_law c_law k_law).binds (ps := ["_law_script"]) fun _ _ _ _ _ _ us hl => match us, hl with | [_], _ => rfl,
    kb_S := qkb_S,
    kb_V := qkb_V,
    em_S := qem_S }
section
variable {P : Program} {w : World} {K : PySem.W.Frag} {mg : Str → Option Value} {base : Heap}
theorem ok_NoSymbol___init__ (W : Wd P K mg) : FnOk P w K mg base CX0 1 W.f_NoSymbol___init__ W.fd_NoSymbol___init__ ["self", "limit"] (sp_exc1 W.c_NoSymbol "limit") := by
  obtain ⟨oc, od, kV, dc, pm, an, ct, osl, lk, efd, hcd⟩ := W.L_NoSymbol
  rw [efd] at lk ⊢
  refine fn_sup lk hcd ns_NoSymbol___init__ W.S_NoSymbol rfl rfl (pl := fun env => plainOf _ env) (fun L => rfl) (fun env => rfl) (fun env => rfl) (fun L => rfl) (fun L => rfl) (fun vs H Q E h => ?_) (fun A outer s H vs Q E hr h => ?_)
  · obtain ⟨a, x, rfl, _⟩ := h
    rfl
  · obtain ⟨a, x, rfl, hx, ha, k⟩ := h
    refine ⟨_, _, (pa_cons (pe_callTy call_strU (by rfl) W.n_str bb_str (pa_cons (pv 1) pa_nil)) pa_nil), pss_one (ps_ost (pv 0) (pv 1)), ?_⟩
    refine ⟨a, rfl, ha, ?_⟩
    have fin : sizeLine ≥ 1 := (by show 1 ≤ sizeLine; decide)
    cases x with
    | int i => exact ⟨_, rfl, hx, fin, ha, _, rfl, _, rfl, a, _, rfl, W.X_NoSymbol, W.xn_NoSymbol_limit, Or.inl ⟨ha, fun dx h1 h2 => k dx h1 h2⟩⟩
    | str z => exact ⟨_, rfl, fin, ha, _, rfl, _, rfl, a, _, rfl, W.X_NoSymbol, W.xn_NoSymbol_limit, Or.inl ⟨ha, fun dx h1 h2 => k dx h1 h2⟩⟩
    | _ => exact hx.elim
end

end LX
namespace LX
open PySem PySem.Spec PyProof.Rows L2 NdefX
section
variable {P : Program} {w : World} {K : PySem.W.Frag} {mg : Str → Option Value} {base : Heap}
theorem int_at {ws : List Int} {i : Nat} {z : Int} (h : ws[i]? = some z) : (ws.map V.int)[i]? = some (V.int z) := by rw [List.getElem?_map, h]; rfl
theorem ixN_nat {n i : Nat} (h : i < n) : ixN n (i : Int) = some i := by
  unfold ixN
  rw [if_pos (by omega), if_pos (by omega)]
  simp
end
section
variable {P : Program} {w : World} {K : PySem.W.Frag} {mg : Str → Option Value} {base : Heap}
def sp_number : Sp := fun vs H Q _ => ∃ c k : Int, vs = [.int c, .int k] ∧ 0 ≤ k ∧ k ≤ 100000 ∧ ∀ r : Int, 0 ≤ r → Q (.int r) H
theorem ok__law_number (W : Wd P K mg) : FnOk P w K mg base CX0 1 W.f__law_number W.fd__law_number ["_law_cell", "_law_k"] sp_number := by
  refine W.F__law_number.ok sc__law_number (fun vs H Q E h => ?_) (fun cdv A outer s H vs Q E hr h => ?_)
  · obtain ⟨n, m, rfl, _⟩ := h
    rfl
  · obtain ⟨c, m, rfl, hm, hm2, k⟩ := h
    have hu1 := hu_of hr
    have hu64 := hu64_of hr
    refine ⟨_, (pss_cons (ps_if (pt_cmpR op_geU (pv 0) (pe_op op_pow pe_int pe_int) (by first | exact nomark _ | rfl)) (pss_one (ps_ret (pv 0))) pss_nil)
      (pss_cons (ps_set (i := 2) sc__law_number.nd rfl (by first | exact Or.inl rfl | exact Or.inr rfl) (pe_op op_mod (pe_callTy call_intU (by rfl) W.n_int bb_int (pa_cons (pe_op op_addU (pe_op op_addU (pe_op op_mulU (pv 0) pe_int) (pe_op op_mulU (pv 1) pe_int)) pe_int) pa_nil)) pe_int))
      (pss_one (ps_ret (pe_op op_mod (pe_callTy call_intU (by rfl) W.n_int bb_int (pa_cons (pe_op op_addU (pe_op op_mulU (pv 2) (pv 2)) (pe_op op_mulU (pv 1) pe_int)) pa_nil)) pe_int))))), ?_⟩
    refine ⟨_, rfl, _, _, rfl, rfl, ⟨by decide, by decide, by decide⟩, _, rfl, ?_⟩
    refine iteD (fun h => ?_) (fun h => ?_)
    · refine ⟨_, rfl, k _ ?_⟩
      have h : (10 : Int) ^ 18 ≤ c := h
      omega
    · refine ⟨_, rfl, Or.inr ⟨by decide, by decide⟩, ?_⟩
      refine ⟨_, rfl, Or.inr ⟨by decide, by decide⟩, ?_⟩
      refine ⟨_, _, rfl, rfl, (by show (0 : Int) < 2147483647; decide), ?_⟩
      have e1 := Int.emod_nonneg (c * 48271 + m * 69621 + 11) (by decide : (2147483647 : Int) ≠ 0)
      have e2 := Int.emod_lt_of_pos (c * 48271 + m * 69621 + 11) (by decide : (0 : Int) < 2147483647)
      generalize (c * 48271 + m * 69621 + 11) % 2147483647 = d at e1 e2 ⊢
      refine ⟨_, rfl, _, rfl, Or.inl ⟨by omega, by omega⟩, ?_⟩
      refine ⟨_, rfl, Or.inr ⟨by decide, by decide⟩, ?_⟩
      refine ⟨_, _, rfl, rfl, (by show (0 : Int) < 2147483399; decide), ?_⟩
      exact k _ (Int.emod_nonneg _ (by decide))
theorem divc (j : Int) (h0 : 0 < j) (h : j ≤ 100000000) : CDivW 0 j := ⟨h0, by
  have : j.natAbs.log2 ≤ j.natAbs := Nat.log2_le_self _
  have e : j.natAbs ≤ 100000000 := by omega
  have : j.natAbs.log2 < 27 := by
    by_cases z : j.natAbs = 0
    · omega
    · exact (Nat.log2_lt z).mpr (by omega)
  omega⟩
theorem divx {i j : Int} (h : CDivW 0 j) : CDivW i j := h
/-- every old thing outside of F is kept -/
def Fr (F : List Addr) (H H' : Hp) : Prop := ∀ b o, H b = some o → b ∉ F → H' b = some o
theorem Fr.rfl' {F : List Addr} {H : Hp} : Fr F H H := fun _ _ e _ => e
theorem Fr.trans {F : List Addr} {H H1 H2 : Hp} (a : Fr F H H1) (b : Fr F H1 H2) : Fr F H H2 := fun c o e n => b c o (a c o e n) n
theorem Fr.new {F : List Addr} {H : Hp} {q : Addr} {o : HO} (hq : H q = none) : Fr F H (upd H q o) := fun c u e _ => by rw [upd_ne (ne_of_none e hq)]; exact e
theorem Fr.at {F : List Addr} {H : Hp} {q : Addr} {o : HO} (hq : q ∈ F) : Fr F H (upd H q o) := fun c u e n => by rw [upd_ne (fun z => n (by rw [z]; exact hq))]; exact e
theorem Fr.mono {F G : List Addr} {H H' : Hp} (a : Fr F H H') (h : ∀ b, b ∈ F → b ∈ G) : Fr G H H' := fun c o e n => a c o e fun m => n (h c m)
def IsI (H : Hp) (a : Addr) (ns : List Int) : Prop := H a = some (.lst (ns.map V.int))
end
section
variable {P : Program} {w : World} {K : PySem.W.Frag} {mg : Str → Option Value} {base : Heap}
theorem Fr.skip {F : List Addr} {H H' : Hp} {q : Addr} {o : HO} (f : Fr F H H') (hq : H q = none) : Fr F H (upd H' q o) := fun b u e n => by rw [upd_ne (ne_of_none e hq)]; exact f b u e n
end
theorem Fr.of {F : List Addr} {H H' : Hp} {x y : Addr} (h : ∀ b, b ≠ x → b ≠ y → H' b = H b) (hx : x ∈ F) (hy : y ∈ F) : Fr F H H' := fun b o e n => by
  rw [h b (fun z => n (by rw [z]; exact hx)) (fun z => n (by rw [z]; exact hy))]; exact e
section
variable {κ : Type} [DecidableEq κ]
theorem valV_drop (k j : κ) : ∀ kvs : List (κ × V), valV (dropK kvs k) j = if j = k then none else valV kvs j
  | [] => by simp [dropK, valV]
  | p :: r => by
    have ih := valV_drop k j r
    unfold dropK at ih ⊢
    by_cases e : p.1 = k
    · rw [List.filter_cons_of_neg (by simp [e]), ih]
      by_cases hj : j = k
      · rw [if_pos hj, if_pos hj]
      · rw [if_neg hj, if_neg hj, valV_neg (fun z => hj (z.symm.trans e))]
    · rw [List.filter_cons_of_pos (by simp [e])]
      by_cases hp : p.1 = j
      · rw [valV_pos hp, valV_pos hp, if_neg (fun z => e (hp.trans z))]
      · rw [valV_neg hp, valV_neg hp, ih]
theorem mem_val {kvs : List (κ × V)} {k : κ} (h : k ∈ kvs.map (·.1)) : ∃ v, valV kvs k = some v := by
  obtain ⟨p, hp, e⟩ := List.mem_map.mp h
  have : (valV kvs k).isSome = true := by
    rw [← valV_any]
    exact List.any_eq_true.mpr ⟨p, hp, decide_eq_true e⟩
  exact Option.isSome_iff_exists.mp this
end
section
variable {P : Program} {w : World} {K : PySem.W.Frag} {mg : Str → Option Value} {base : Heap}
theorem firstAt {l : List Int} {n : Int} (h : n ∈ l) : ∃ j : Nat, l[j]? = some n ∧ ∀ (m : Nat) (z : Int), m < j → l[m]? = some z → z ≠ n := by
  induction l with
  | nil => simp at h
  | cons a r ih =>
    by_cases e : a = n
    · exact ⟨0, by rw [e]; rfl, fun m z hm => by omega⟩
    · obtain ⟨j, h1, h2⟩ := ih ((List.mem_cons.mp h).resolve_left fun z => e z.symm)
      refine ⟨j + 1, h1, fun m z hm hz => ?_⟩
      cases m with
      | zero => cases hz; exact e
      | succ m => exact h2 m z (by omega) hz
end
section
variable {P : Program} {w : World} {K : PySem.W.Frag} {mg : Str → Option Value} {base : Heap}
theorem val_mem {κ : Type} [DecidableEq κ] {kvs : List (κ × V)} {k : κ} {v : V} (h : valV kvs k = some v) : (k, v) ∈ kvs := by
  unfold valV at h
  obtain ⟨p, hp, e⟩ := Option.map_eq_some_iff.mp h
  have h1 := List.find?_some hp
  have h2 := List.mem_of_find?_eq_some hp
  have h1 : p.1 = k := of_decide_eq_true h1
  obtain ⟨a, b⟩ := p
  subst h1 e
  exact h2
end

end LX
namespace LX
open PySem PySem.Spec PyProof.Rows L2 NdefX
/-! texts by their numbers -/
def numK : Nat → List Str → List (Key × V)
  | _, [] => []
  | i, z :: r => (.inr z, .int (i : Int)) :: numK (i + 1) r
theorem numK_len : ∀ (L : List Str) (i : Nat), (numK i L).length = L.length
  | [], _ => rfl
  | _ :: r, i => by show (numK (i + 1) r).length + 1 = _; rw [numK_len r]; rfl
theorem numK_app : ∀ (A B : List Str) (i : Nat), numK i (A ++ B) = numK i A ++ numK (i + A.length) B
  | [], _, _ => rfl
  | a :: r, B, i => by
    show (_, _) :: numK (i + 1) (r ++ B) = (_, _) :: (numK (i + 1) r ++ _)
    rw [numK_app r B (i + 1), List.length_cons, show i + 1 + r.length = i + (r.length + 1) by omega]
theorem numK_none : ∀ (L : List Str) (i : Nat) (z : Str), z ∉ L → valV (numK i L) (.inr z : Key) = none
  | [], _, _, _ => rfl
  | a :: r, i, z, h => by
    show valV ((.inr a, _) :: numK (i + 1) r) _ = none
    rw [valV_neg (fun e => h (by rw [Sum.inr.inj e]; exact List.mem_cons_self)), numK_none r (i + 1) z fun m => h (List.mem_cons_of_mem _ m)]
theorem numK_at : ∀ (L : List Str) (i j : Nat) (z : Str), L.Nodup → L[j]? = some z → valV (numK i L) (.inr z : Key) = some (.int ((i + j : Nat) : Int))
  | [], _, _, _, _, h => by simp at h
  | a :: r, i, 0, z, _, h => by cases h; exact valV_pos rfl
  | a :: r, i, j + 1, z, nd, h => by
    have h : r[j]? = some z := h
    show valV ((.inr a, _) :: numK (i + 1) r) _ = _
    rw [valV_neg (fun e => (List.nodup_cons.mp nd).1 (by rw [Sum.inr.inj e]; exact List.mem_of_getElem? h)), numK_at r (i + 1) j z (List.nodup_cons.mp nd).2 h, show i + 1 + j = i + (j + 1) by omega]
theorem dropK_none {κ : Type} [DecidableEq κ] {k : κ} : ∀ {l : List (κ × V)}, valV l k = none → dropK l k = l
  | [], _ => rfl
  | p :: r, h => by
    by_cases e : p.1 = k
    · rw [valV_pos e] at h; cases h
    · rw [valV_neg e] at h
      have ih := dropK_none h
      unfold dropK at ih ⊢
      rw [List.filter_cons_of_pos (by simp [e]), ih]
theorem dropK_mid {κ : Type} [DecidableEq κ] {k : κ} {v : V} {A B : List (κ × V)} (a : valV A k = none) (b : valV B k = none) : dropK (A ++ (k, v) :: B) k = A ++ B := by
  have h1 := dropK_none a
  have h2 := dropK_none b
  unfold dropK at h1 h2 ⊢
  rw [List.filter_append, h1, List.filter_cons_of_neg (by simp), h2]
theorem nd_snoc {L : List Str} {z : Str} (nd : L.Nodup) (h : z ∉ L) : (L ++ [z]).Nodup := by
  rw [List.nodup_append]
  refine ⟨nd, by simp, fun a ha b hb e => ?_⟩
  have : b = z := by simpa using hb
  subst this
  subst e
  exact h ha
section
variable {P : Program} {w : World} {K : PySem.W.Frag} {mg : Str → Option Value} {base : Heap}
def yF (most : Int) (tl nl : Addr) : List (Str × V) := [("most", .int most), ("_texts", .ref tl), ("_numbers", .ref nl)]
structure SymAt (H : Hp) (C sy dx tl nl : Addr) (most : Int) (L : List Str) : Prop where
  sy : H sy = some (.ins C dx (yF most tl nl))
  tl : H tl = some (.lst (L.map V.str))
  nl : H nl = some (.dK (numK 0 L))
  nd : L.Nodup
theorem SymAt.keep {H H' : Hp} {C sy dx tl nl : Addr} {most : Int} {L : List Str} (S : SymAt H C sy dx tl nl most L) {F : List Addr} (f : Fr F H H') (h : ∀ b ∈ [sy, tl, nl], b ∉ F) : SymAt H' C sy dx tl nl most L :=
  ⟨f _ _ S.sy (h _ (by simp)), f _ _ S.tl (h _ (by simp)), f _ _ S.nl (h _ (by simp)), S.nd⟩
theorem str_at {ws : List Str} {i : Nat} {z : Str} (h : ws[i]? = some z) : (ws.map V.str)[i]? = some (V.str z) := by rw [List.getElem?_map, h]; rfl
def sp_sinit : Addr → Sp := fun C vs H Q _ => ∃ sy dx, ∃ most : Int, vs = [.ref sy, .int most] ∧ H sy = some (.ins C dx []) ∧
  ∀ H' tl nl, SymAt H' C sy dx tl nl most [] → (∀ b o, H b = some o → b ≠ sy → H' b = some o) → H tl = none → H nl = none → Q .non H'
theorem ok_Symbols___init__ (W : Wd P K mg) : FnOk P w K mg base CX0 1 W.f_Symbols___init__ W.fd_Symbols___init__ ["self", "most"] (sp_sinit W.c_Symbols) := by
  refine W.FD_Symbols___init__.ok sc_Symbols___init__ (fun vs H Q E h => ?_) (fun cdv A outer s H vs Q E hr h => ?_)
  · obtain ⟨st, dx, most, rfl, _⟩ := h
    rfl
  · obtain ⟨st, dx, most, rfl, S, k⟩ := h
    have hu1 := hu_of hr
    have hu64 := hu64_of hr
    refine ⟨_, (pss_cons (ps_fld (pv 0) (pv 1) rfl)
      (pss_cons (ps_fld (pv 0) (pe_lst pa_nil) rfl)
      (pss_one (ps_fld (pv 0) pe_dnewK rfl)))), ?_⟩
    refine ⟨_, rfl, _, rfl, st, _, dx, _, rfl, S, W.C_Symbols, W.na_Symbols_most, (by decide), ?_⟩
    generalize e1 : upd H st (.ins W.c_Symbols dx (putF "most" (.int most) [])) = H1
    have s1 : H1 st = some (.ins W.c_Symbols dx [("most", .int most)]) := by rw [← e1]; exact upd_same
    refine ⟨(by show 0 ≤ sizeLine; decide), fun wl hw => ?_⟩
    have nw : st ≠ wl := ne_of_none s1 hw
    have s2 : upd H1 wl (.lst []) st = some (.ins W.c_Symbols dx [("most", .int most)]) := by rw [upd_ne nw]; exact s1
    refine ⟨_, rfl, st, _, dx, _, rfl, s2, W.C_Symbols, W.na_Symbols__texts, (by show 1 < 1000; decide), ?_⟩
    intro pl hp
    have np : st ≠ pl := ne_of_none upd_same hp
    have npw : wl ≠ pl := fun z => by subst z; rw [upd_ne nw.symm, upd_same] at hp; cases hp
    refine ⟨_, rfl, st, _, dx, _, rfl, (by rw [upd_ne np]; exact upd_same), W.C_Symbols, W.na_Symbols__numbers, (by show 2 < 1000; decide), ?_⟩
    have hw0 : H wl = none := by rw [← e1, upd_ne nw.symm] at hw; exact hw
    have hp0 : H pl = none := by rw [upd_ne np.symm, upd_ne npw.symm, ← e1, upd_ne np.symm] at hp; exact hp
    refine k _ wl pl ⟨upd_same, ?_, ?_, List.nodup_nil⟩ (fun b o e nb => ?_) hw0 hp0
    · rw [upd_ne nw.symm, upd_ne npw, upd_ne nw.symm]; exact upd_same
    · rw [upd_ne np.symm]; exact upd_same
    · rw [upd_ne nb, upd_ne (ne_of_none e hp0), upd_ne nb, upd_ne (ne_of_none e hw0), ← e1, upd_ne nb]; exact e
def sp_cnt : Addr → Sp := fun C vs H Q _ => ∃ sy dx tl nl most L, vs = [.ref sy] ∧ SymAt H C sy dx tl nl most L ∧ Q (.int L.length) H
theorem ok_Symbols_count (W : Wd P K mg) : FnOk P w K mg base CX0 1 W.f_Symbols_count W.fd_Symbols_count ["self"] (sp_cnt W.c_Symbols) := by
  refine W.F_Symbols_count.ok sc_Symbols_count (fun vs H Q E h => ?_) (fun cdv A outer s H vs Q E hr h => ?_)
  · obtain ⟨sy, dx, tl, nl, most, L, rfl, _⟩ := h
    rfl
  · obtain ⟨sy, dx, tl, nl, most, L, rfl, S, k⟩ := h
    have hu1 := hu_of hr
    have hu64 := hu64_of hr
    refine ⟨_, (pss_one (ps_ret (pe_callB call_lenU (by rfl) W.n_len bb_len (pa_cons (pe_fld (pv 0) rfl) pa_nil)))), ?_⟩
    refine ⟨_, rfl, sy, _, dx, _, _, rfl, S.sy, W.C_Symbols, W.na_Symbols__texts, rfl, ?_⟩
    refine Or.inl ⟨_, Or.inl (SqL.of S.tl), ?_⟩
    rw [List.length_map]
    exact k
def sp_knows : Addr → Sp := fun C vs H Q _ => ∃ sy dx tl nl most L z, vs = [.ref sy, .str z] ∧ SymAt H C sy dx tl nl most L ∧ Q (.bl (decide (z ∈ L))) H
theorem numK_is {L : List Str} (nd : L.Nodup) (z : Str) : (valV (numK 0 L) (.inr z : Key)).isSome = decide (z ∈ L) := by
  by_cases h : z ∈ L
  · obtain ⟨j, hj⟩ := List.getElem?_of_mem h
    rw [numK_at L 0 j z nd hj, decide_eq_true h]; rfl
  · rw [numK_none L 0 z h, decide_eq_false h]; rfl
theorem ok_Symbols_knows (W : Wd P K mg) : FnOk P w K mg base CX0 1 W.f_Symbols_knows W.fd_Symbols_knows ["self", "text"] (sp_knows W.c_Symbols) := by
  refine W.F_Symbols_knows.ok sc_Symbols_knows (fun vs H Q E h => ?_) (fun cdv A outer s H vs Q E hr h => ?_)
  · obtain ⟨sy, dx, tl, nl, most, L, z, rfl, _⟩ := h
    rfl
  · obtain ⟨sy, dx, tl, nl, most, L, z, rfl, S, k⟩ := h
    have hu1 := hu_of hr
    have hu64 := hu64_of hr
    refine ⟨_, (pss_one (ps_ret (pe_cmpR (op_inU hu1) (pv 1) (pe_fld (pv 0) rfl) (by first | exact nomark _ | rfl)))), ?_⟩
    refine ⟨_, rfl, ?_⟩
    refine ⟨_, rfl, sy, _, dx, _, _, rfl, S.sy, W.C_Symbols, W.na_Symbols__numbers, rfl, ?_⟩
    refine Or.inr ⟨_, DGet.k (k := Sum.inr z) S.nl, ?_⟩
    rw [numK_is S.nd]
    exact k
def sp_txt : Addr → Sp := fun C vs H Q _ => ∃ sy dx tl nl most L z, ∃ i : Nat, vs = [.ref sy, .int i] ∧ SymAt H C sy dx tl nl most L ∧ L[i]? = some z ∧ Q (.str z) H
theorem ok_Symbols_text (W : Wd P K mg) : FnOk P w K mg base CX0 1 W.f_Symbols_text W.fd_Symbols_text ["self", "number"] (sp_txt W.c_Symbols) := by
  refine W.F_Symbols_text.ok sc_Symbols_text (fun vs H Q E h => ?_) (fun cdv A outer s H vs Q E hr h => ?_)
  · obtain ⟨sy, dx, tl, nl, most, L, z, i, rfl, _⟩ := h
    rfl
  · obtain ⟨sy, dx, tl, nl, most, L, z, i, rfl, S, hi, k⟩ := h
    have hu1 := hu_of hr
    have hu64 := hu64_of hr
    refine ⟨_, (pss_one (ps_ret (pe_ix (ix_U hu1) (pe_fld (pv 0) rfl) (pv 1) (fun _ _ => rfl)))), ?_⟩
    refine ⟨_, rfl, sy, _, dx, _, _, rfl, S.sy, W.C_Symbols, W.na_Symbols__texts, rfl, ?_⟩
    exact ⟨_, rfl, Or.inl ⟨_, _, _, rfl, Or.inl (SqL.of S.tl), atI_nat (str_at hi), k⟩⟩
def sp_texts : Addr → Sp := fun C vs H Q _ => ∃ sy dx tl nl most L, vs = [.ref sy] ∧ SymAt H C sy dx tl nl most L ∧ ∀ l, H l = none → Q (.ref l) (upd H l (.lst (L.map V.str)))
theorem ok_Symbols_texts (W : Wd P K mg) : FnOk P w K mg base CX0 1 W.f_Symbols_texts W.fd_Symbols_texts ["self"] (sp_texts W.c_Symbols) := by
  refine W.F_Symbols_texts.ok sc_Symbols_texts (fun vs H Q E h => ?_) (fun cdv A outer s H vs Q E hr h => ?_)
  · obtain ⟨sy, dx, tl, nl, most, L, rfl, _⟩ := h
    rfl
  · obtain ⟨sy, dx, tl, nl, most, L, rfl, S, k⟩ := h
    have hu1 := hu_of hr
    have hu64 := hu64_of hr
    refine ⟨_, (pss_one (ps_ret (pe_callTy call_list_of (by rfl) W.n_list bb_list (pa_cons (pe_fld (pv 0) rfl) pa_nil)))), ?_⟩
    refine ⟨_, rfl, sy, _, dx, _, _, rfl, S.sy, W.C_Symbols, W.na_Symbols__texts, rfl, ?_⟩
    exact ⟨_, _, rfl, Or.inl (SqL.of S.tl), k⟩
def sp_num : Addr → Addr → Sp := fun C CE vs H Q E => ∃ sy dx tl nl most L z, vs = [.ref sy, .str z] ∧ SymAt H C sy dx tl nl most L ∧ (z ∉ L → z.length ≤ sizeLine) ∧ L.length < 100000 ∧ StrOk (.int most) ∧
  (∀ i : Nat, L[i]? = some z → Q (.int i) H) ∧
  (z ∉ L → 4000 < z.length → ∀ d, H d = none → E (.ref CE) (some d) (L2.upd H d (.xd [("limit", .int 4000)]))) ∧
  (z ∉ L → ¬ 4000 < z.length → most ≤ L.length → ∀ d, H d = none → E (.ref CE) (some d) (L2.upd H d (.xd [("limit", .int most)]))) ∧
  (z ∉ L → ¬ 4000 < z.length → ¬ most ≤ L.length → ∀ H', SymAt H' C sy dx tl nl most (L ++ [z]) → Fr [tl, nl] H H' → Q (.int L.length) H')
theorem ok_Symbols_number (W : Wd P K mg) : FnOk P w K mg base (L2N.CX P w) 3 W.f_Symbols_number W.fd_Symbols_number ["self", "text"] (sp_num W.c_Symbols W.c_NoSymbol) := by
  refine okN W.F_Symbols_number sc_Symbols_number (fun vs H Q E h => ?_) (fun cdv A outer s H vs Q E hr h => ?_)
  · obtain ⟨sy, dx, tl, nl, most, L, z, rfl, _⟩ := h
    rfl
  · obtain ⟨sy, dx, tl, nl, most, L, z, rfl, S, hz, hl, hm, k1, k2, k3, k4⟩ := h
    have hu1 := hu_of hr
    have hu64 := hu64_of hr
    refine ⟨_, (pss_cons (ps_if (pt_cmpR (op_inU hu1) (pv 1) (pe_fld (pv 0) rfl) (by first | exact nomark _ | rfl)) (pss_one (ps_ret (pe_ix (ix_U hu1) (pe_fld (pv 0) rfl) (pv 1) (fun _ _ => rfl)))) pss_nil)
      (pss_cons (ps_if (pt_cmpR op_gtU (pe_callB call_lenU (by rfl) W.n_len bb_len (pa_cons (pv 1) pa_nil)) (pe_gi rfl W.g_LONGEST) (by first | exact nomark _ | rfl)) (pss_one (L2N.ps_raise rfl (L2N.takes_of rfl rfl rfl rfl) (pmk_x W.X_NoSymbol W.i_NoSymbol (ok_NoSymbol___init__ W) (hr.mono (by decide)) W.b_NoSymbol___init__ pass0 rfl W.g_NoSymbol (pa_cons (pe_gi rfl W.g_LONGEST) pa_nil)))) pss_nil)
      (pss_cons (ps_if (pt_cmpR op_geU (pe_callB call_lenU (by rfl) W.n_len bb_len (pa_cons (pe_fld (pv 0) rfl) pa_nil)) (pe_fld (pv 0) rfl) (by first | exact nomark _ | rfl)) (pss_one (L2N.ps_raise rfl (L2N.takes_of rfl rfl rfl rfl) (pmk_x W.X_NoSymbol W.i_NoSymbol (ok_NoSymbol___init__ W) (hr.mono (by decide)) W.b_NoSymbol___init__ pass0 rfl W.g_NoSymbol (pa_cons (pe_fld (pv 0) rfl) pa_nil)))) pss_nil)
      (pss_cons (ps_dput hu1 (pe_fld (pv 0) rfl) (pv 1) (pe_callB call_lenU (by rfl) W.n_len bb_len (pa_cons (pe_fld (pv 0) rfl) pa_nil)) rfl)
      (pss_cons (ps_expr (pe_bm PySem.F.plainAttrs_list PySem.F.slot_list_append PySem.F.type_list_append mt_append (pe_fld (pv 0) rfl) (pa_cons (pv 1) pa_nil)))
      (pss_one (ps_ret (pe_op op_sub (pe_callB call_lenU (by rfl) W.n_len bb_len (pa_cons (pe_fld (pv 0) rfl) pa_nil)) pe_int)))))))), ?_⟩
    refine ⟨_, rfl, ?_⟩
    refine ⟨_, rfl, sy, _, dx, _, _, rfl, S.sy, W.C_Symbols, W.na_Symbols__numbers, rfl, ?_⟩
    refine Or.inr ⟨_, DGet.k (k := Sum.inr z) S.nl, ?_⟩
    rw [numK_is S.nd]
    refine ⟨_, rfl, ?_⟩
    refine iteD (fun h1 => ?_) (fun h1 => ?_)
    · obtain ⟨j, hj⟩ := List.getElem?_of_mem h1
      have e := numK_at L 0 j z S.nd hj
      rw [Nat.zero_add] at e
      refine ⟨_, rfl, sy, _, dx, _, _, rfl, S.sy, W.C_Symbols, W.na_Symbols__numbers, rfl, ?_⟩
      refine ⟨_, rfl, Or.inr ⟨_, by rw [← e]; exact DGet.k (k := Sum.inr z) S.nl, ?_⟩⟩
      exact k1 j hj
    · refine ⟨_, rfl, hz h1, ?_⟩
      refine ⟨_, rfl, ?_⟩
      refine iteD (fun h2 => ?_) (fun h2 => ?_)
      · have h2 : 4000 < z.length := by have : (4000 : Int) < z.length := h2; omega
        exact exc1_mk (by show (4000 : Int).natAbs.log2 < 1920; decide) fun d hd => k2 h1 h2 d hd
      · have h2 : ¬ 4000 < z.length := by have : ¬ (4000 : Int) < z.length := h2; omega
        refine ⟨_, rfl, sy, _, dx, _, _, rfl, S.sy, W.C_Symbols, W.na_Symbols__texts, rfl, ?_⟩
        refine Or.inl ⟨_, Or.inl (SqL.of S.tl), ?_⟩
        rw [List.length_map]
        refine ⟨_, rfl, sy, _, dx, _, _, rfl, S.sy, W.C_Symbols, W.na_Symbols_most, rfl, ?_⟩
        refine ⟨_, rfl, ?_⟩
        refine iteD (fun h3 => ?_) (fun h3 => ?_)
        · refine ⟨_, rfl, sy, _, dx, _, _, rfl, S.sy, W.C_Symbols, W.na_Symbols_most, rfl, ?_⟩
          exact exc1_mk hm fun d hd => k3 h1 h2 h3 d hd
        · refine ⟨_, rfl, sy, _, dx, _, _, rfl, S.sy, W.C_Symbols, W.na_Symbols__texts, rfl, ?_⟩
          refine Or.inl ⟨_, Or.inl (SqL.of S.tl), ?_⟩
          rw [List.length_map]
          refine ⟨_, rfl, sy, _, dx, _, _, rfl, S.sy, W.C_Symbols, W.na_Symbols__numbers, rfl, ?_⟩
          refine ⟨_, rfl, nl, _, rfl, DPut.k (k := Sum.inr z) S.nl (by rw [numK_len, sizeLine_eq]; omega), ?_⟩
          have e1 : putK (numK 0 L) (.inr z : Key) (.int (L.length : Int)) = numK 0 (L ++ [z]) := by
            rw [putK_new _ (numK_none L 0 z h1), numK_app, Nat.zero_add]; rfl
          rw [e1]
          have n1 : sy ≠ nl := ne_of S.sy S.nl (by intro z; cases z)
          have n2 : tl ≠ nl := ne_of S.tl S.nl (by intro z; cases z)
          have n3 : sy ≠ tl := ne_of S.sy S.tl (by intro z; cases z)
          have f1 : Fr [tl, nl] H (upd H nl (.dK (numK 0 (L ++ [z])))) := Fr.at (by simp)
          have a1 : upd H nl (.dK (numK 0 (L ++ [z]))) nl = some (.dK (numK 0 (L ++ [z]))) := upd_same
          have a2 : upd H nl (.dK (numK 0 (L ++ [z]))) tl = some (.lst (L.map V.str)) := by rw [upd_ne n2]; exact S.tl
          have a3 : upd H nl (.dK (numK 0 (L ++ [z]))) sy = some (.ins W.c_Symbols dx (yF most tl nl)) := by rw [upd_ne n1]; exact S.sy
          generalize upd H nl (.dK (numK 0 (L ++ [z]))) = H1 at f1 a1 a2 a3
          refine ⟨_, rfl, sy, _, dx, _, _, rfl, a3, W.C_Symbols, W.na_Symbols__texts, rfl, Or.inl ⟨rfl, _, SqL.of a2⟩, ?_⟩
          refine ⟨_, rfl, tl, _, _, rfl, rfl, a2, (by rw [List.length_map, sizeLine_eq]; omega), ?_⟩
          have e2 : L.map V.str ++ [V.str z] = (L ++ [z]).map V.str := by rw [List.map_append]; rfl
          rw [e2]
          have f2 : Fr [tl, nl] H (upd H1 tl (.lst ((L ++ [z]).map V.str))) := f1.trans (Fr.at (by simp))
          have S2 : SymAt (upd H1 tl (.lst ((L ++ [z]).map V.str))) W.c_Symbols sy dx tl nl most (L ++ [z]) := ⟨by rw [upd_ne n3]; exact a3, upd_same, by rw [upd_ne n2.symm]; exact a1, nd_snoc S.nd h1⟩
          generalize upd H1 tl (.lst ((L ++ [z]).map V.str)) = H2 at f2 S2
          refine ⟨_, rfl, sy, _, dx, _, _, rfl, S2.sy, W.C_Symbols, W.na_Symbols__texts, rfl, ?_⟩
          refine Or.inl ⟨_, Or.inl (SqL.of S2.tl), ?_⟩
          rw [List.length_map, List.length_append]
          refine ⟨_, _, rfl, rfl, ?_⟩
          have := k4 h1 h2 h3 H2 S2 f2
          show Q (.int (((L.length + [z].length : Nat) : Int) - 1)) H2
          rw [show ((L.length + [z].length : Nat) : Int) - 1 = L.length by simp]
          exact this
end

end LX
namespace LX
open PySem PySem.Spec PyProof.Rows L2 NdefX
section
variable {P : Program} {w : World} {K : PySem.W.Frag} {mg : Str → Option Value} {base : Heap}
theorem cutV_tail {xs : List V} {c : Nat} (h : c ≤ xs.length ∨ xs.length ≤ c) : cutV xs (some (c : Int)) none = xs.drop c := by
  unfold cutV
  have h1 : HT.sIx xs.length 0 (some (c : Int)) = min c xs.length := by rw [HT.sIx_nat]
  have h2 : HT.sIx xs.length xs.length none = xs.length := rfl
  rw [h1, h2]
  by_cases q : c ≤ xs.length
  · rw [show min c xs.length = c by omega, List.take_of_length_le (by rw [List.length_drop]; omega)]
  · rw [show min c xs.length = xs.length by omega, List.drop_of_length_le (Nat.le_refl _), List.drop_of_length_le (by omega)]; simp
def sp_cut : Addr → Sp := fun C vs H Q _ => ∃ sy dx tl nl most L, ∃ c : Nat, vs = [.ref sy, .int c] ∧ SymAt H C sy dx tl nl most L ∧ L.length < 100000 ∧
  ∀ H', SymAt H' C sy dx tl nl most (L.take c) → Fr [tl, nl] H H' → Q .non H'
theorem ok_Symbols_cut (W : Wd P K mg) : FnOk P w K mg base CX0 1 W.f_Symbols_cut W.fd_Symbols_cut ["self", "count"] (sp_cut W.c_Symbols) := by
  refine W.F_Symbols_cut.ok sc_Symbols_cut (fun vs H Q E h => ?_) (fun cdv A outer s H vs Q E hr h => ?_)
  · obtain ⟨sy, dx, tl, nl, most, L, c, rfl, _⟩ := h
    rfl
  · obtain ⟨sy, dx, tl, nl, most, L, c, rfl, S, hl, k⟩ := h
    have hu1 := hu_of hr
    have hu64 := hu64_of hr
    have n1 : sy ≠ nl := ne_of S.sy S.nl (by intro z; cases z)
    have n2 : tl ≠ nl := ne_of S.tl S.nl (by intro z; cases z)
    have n3 : sy ≠ tl := ne_of S.sy S.tl (by intro z; cases z)
    refine ⟨_, (pss_cons (ps_for PassesOwn.never rfl (pi_list (pe_slice sl_U (pe_fld (pv 0) rfl) (po_some (pv 1)) po_none)) (pg_name (i := 2) sc_Symbols_cut.nd rfl (by first | exact Or.inl rfl | exact Or.inr rfl)) (pss_one (ps_ddel (pe_fld (pv 0) rfl) (pv 2))))
      (pss_one (ps_delTail (pe_fld (pv 0) rfl) (po_some (pv 1))))), ?_⟩
    refine ⟨_, rfl, sy, _, dx, _, _, rfl, S.sy, W.C_Symbols, W.na_Symbols__texts, rfl, ?_⟩
    refine ⟨_, rfl, ?_⟩
    refine ⟨_, rfl, ?_⟩
    refine Or.inl ⟨tl, _, rfl, SqL.of S.tl, fun q hq => ?_⟩
    have e0 : cutV (L.map V.str) (some (c : Int)) none = (L.drop c).map V.str := by rw [cutV_tail (by omega), List.map_drop]
    rw [e0]
    have f1 : Fr [] H (upd H q (.lst ((L.drop c).map V.str))) := Fr.new hq
    have q1 : upd H q (.lst ((L.drop c).map V.str)) q = some (.lst ((L.drop c).map V.str)) := upd_same
    have nqn : q ≠ nl := (ne_of_none S.nl hq).symm
    generalize upd H q (.lst ((L.drop c).map V.str)) = H1 at f1 q1
    have S1 := S.keep f1 (by simp)
    have es : L = L.take c ++ L.drop c := (List.take_append_drop c L).symm
    have nd := S.nd
    rw [es, List.nodup_append] at nd
    have d1 : H1 nl = some (.dK (numK 0 (L.take c) ++ numK ((L.take c).length + 0) ((L.drop c).drop 0))) := by
      have e := S1.nl
      rw [es, numK_app, Nat.zero_add] at e
      exact e
    refine ⟨q, rfl, ⟨_, SqL.of q1⟩, ?_⟩
    refine for_list (K := K) (a := q) (xs := (L.drop c).map V.str) (fun i σ H' => (∃ v2 : Option V, σ = [some (.ref sy), some (.int c), v2]) ∧ H' q = some (.lst ((L.drop c).map V.str)) ∧ H' sy = some (.ins W.c_Symbols dx (yF most tl nl)) ∧ H' tl = some (.lst (L.map V.str)) ∧ H' nl = some (.dK (numK 0 (L.take c) ++ numK ((L.take c).length + i) ((L.drop c).drop i))) ∧ Fr [tl, nl] H H')
      ⟨⟨_, rfl⟩, q1, S1.sy, S1.tl, d1, f1.mono (by simp)⟩ (fun i σ H' _ h => SqL.of h.2.1) (fun i x σ H2 hx h => ?_) (fun σ H2 h => ?_)
    · obtain ⟨⟨v2, rfl⟩, a1, a2, a3, a4, a5⟩ := h
      rw [List.getElem?_map] at hx
      obtain ⟨z, hz, rfl⟩ := Option.map_eq_some_iff.mp hx
      obtain ⟨hi, ez⟩ := List.getElem?_eq_some_iff.mp hz
      have ed : (L.drop c).drop i = z :: (L.drop c).drop (i + 1) := by rw [List.drop_eq_getElem_cons hi, ez]
      have nz1 : z ∉ L.take c := fun m => nd.2.2 z m z (List.mem_of_getElem? hz) rfl
      have nz2 : z ∉ (L.drop c).drop (i + 1) := by
        have h2 := (List.drop_sublist i (L.drop c)).nodup nd.2.1
        rw [ed] at h2
        exact (List.nodup_cons.mp h2).1
      rw [ed] at a4
      have a4 : H2 nl = some (.dK (numK 0 (L.take c) ++ (.inr z, .int (((L.take c).length + i : Nat) : Int)) :: numK ((L.take c).length + i + 1) ((L.drop c).drop (i + 1)))) := a4
      obtain ⟨v, hv⟩ := mem_val (kvs := numK 0 (L.take c) ++ (.inr z, .int (((L.take c).length + i : Nat) : Int)) :: numK ((L.take c).length + i + 1) ((L.drop c).drop (i + 1))) (k := (.inr z : Key)) (by simp)
      refine ⟨_, rfl, sy, _, dx, _, _, rfl, a2, W.C_Symbols, W.na_Symbols__numbers, rfl, ?_⟩
      refine ⟨_, rfl, nl, _, .inr z, rfl, a4, rfl, by rw [hv]; rfl, ?_⟩
      refine ⟨⟨_, rfl⟩, by rw [upd_ne nqn]; exact a1, by rw [upd_ne n1]; exact a2, by rw [upd_ne n2]; exact a3, ?_, a5.trans (Fr.at (by simp))⟩
      rw [upd_same, dropK_mid (numK_none _ _ _ nz1) (numK_none _ _ _ nz2)]
      rfl
    · obtain ⟨⟨v2, rfl⟩, a1, a2, a3, a4, a5⟩ := h
      rw [List.length_map, List.drop_of_length_le (Nat.le_refl _)] at a4
      have a4 : H2 nl = some (.dK (numK 0 (L.take c) ++ [])) := a4
      rw [List.append_nil] at a4
      refine ⟨_, rfl, sy, _, dx, _, _, rfl, a2, W.C_Symbols, W.na_Symbols__texts, rfl, ?_⟩
      refine ⟨_, rfl, _, rfl, ?_⟩
      refine ⟨tl, _, _, rfl, rfl, a3, ?_⟩
      have e : (L.map V.str).take (HT.sIx (L.map V.str).length 0 (some (c : Int))) = (L.take c).map V.str := by
        rw [HT.sIx_nat, List.length_map, ← List.map_take]
        congr 1
        by_cases q : c ≤ L.length
        · rw [show min c L.length = c by omega]
        · rw [show min c L.length = L.length by omega, List.take_of_length_le (Nat.le_refl _), List.take_of_length_le (by omega)]
      rw [e]
      exact k _ ⟨by rw [upd_ne n3]; exact a2, upd_same, by rw [upd_ne n2.symm]; exact a4, nd.1⟩ (a5.trans (Fr.at (by simp)))
end
section
variable {P : Program} {w : World} {K : PySem.W.Frag} {mg : Str → Option Value} {base : Heap}
def sp_text : Sp := fun vs H Q _ => ∃ x : Int, vs = [.int x] ∧ ∀ z : Str, z.length ≤ 5000 → Q (.str z) H
theorem rep_len (n c : Nat) : (T (List.replicate n c)).length = n := by
  show (List.replicate n c).toArray.size = n
  rw [List.size_toArray, List.length_replicate]
theorem T_len (l : List Nat) : (T l).length = l.length := by show l.toArray.size = _; rw [List.size_toArray]
theorem ok__law_text (W : Wd P K mg) : FnOk P w K mg base CX0 1 W.f__law_text W.fd__law_text ["_law_x"] sp_text := by
  refine W.F__law_text.ok sc__law_text (fun vs H Q E h => ?_) (fun cdv A outer s H vs Q E hr h => ?_)
  · obtain ⟨x, rfl, _⟩ := h
    rfl
  · obtain ⟨x, rfl, k⟩ := h
    have hu1 := hu_of hr
    have hu64 := hu64_of hr
    refine ⟨_, (Evl.pss_cut (ps_if (pt_cmpR (op_eqU hu64) (pe_op op_mod (pe_callTy call_intU (by rfl) W.n_int bb_int (pa_cons (pv 0) pa_nil)) pe_int) pe_int (by first | exact nomark _ | rfl)) (pss_cons (ps_if (pt_cmpR (op_eqU hu64) (pe_op op_mod (pe_op op_fdivW (pv 0) pe_int) pe_int) pe_int (by first | exact nomark _ | rfl)) (pss_one (ps_ret (pe_op op_repS (pe_strT (show (PySem.Str.ofString "a") = T [97] by decide +kernel)) (pe_op op_addU pe_int (pe_op op_mod (pe_op op_fdivW (pv 0) pe_int) pe_int))))) pss_nil)
      (pss_one (ps_ret (pe_op op_repS (pe_strT (show (PySem.Str.ofString "b") = T [98] by decide +kernel)) (pe_op op_addU pe_int (pe_op op_mod (pe_op op_fdivW (pv 0) pe_int) pe_int)))))) pss_nil)
      (pss_cons (ps_set (i := 1) sc__law_text.nd rfl (by first | exact Or.inl rfl | exact Or.inr rfl) (pe_strT e_CHC))
      (pss_cons (ps_set (i := 2) sc__law_text.nd rfl (by first | exact Or.inl rfl | exact Or.inr rfl) (pe_op op_mod (pe_op op_fdivW (pv 0) pe_int) pe_int))
      (Evl.pss_cut (ps_if (pt_cmpR (op_eqU hu64) (pe_op op_mod (pe_op op_mod (pe_callTy call_intU (by rfl) W.n_int bb_int (pa_cons (pv 0) pa_nil)) pe_int) pe_int) pe_int (by first | exact nomark _ | rfl)) (pss_cons (ps_set (i := 1) sc__law_text.nd rfl (by first | exact Or.inl rfl | exact Or.inr rfl) (pe_strT e_CHA))
      (pss_cons (ps_set (i := 1) sc__law_text.nd rfl (by first | exact Or.inl rfl | exact Or.inr rfl) (pe_op op_addU (pv 1) (pe_strT e_CHB)))
      (pss_one (ps_set (i := 2) sc__law_text.nd rfl (by first | exact Or.inl rfl | exact Or.inr rfl) (pe_op op_mod (pe_op op_fdivW (pv 0) pe_int) pe_int))))) pss_nil)
      (pss_cons (ps_set (i := 3) sc__law_text.nd rfl (by first | exact Or.inl rfl | exact Or.inr rfl) (pe_op op_fdivW (pv 0) pe_int))
      (pss_cons (ps_set (i := 4) sc__law_text.nd rfl (by first | exact Or.inl rfl | exact Or.inr rfl) (pe_strT (show (PySem.Str.ofString "") = T [] by decide +kernel)))
      (pss_cons (ps_for PassesOwn.never rfl (pi_range1 (by rfl) W.n_range (pa_cons (pv 2) pa_nil)) (pg_name (i := 5) sc__law_text.nd rfl (by first | exact Or.inl rfl | exact Or.inr rfl)) (pss_cons (ps_set (i := 4) sc__law_text.nd rfl (by first | exact Or.inl rfl | exact Or.inr rfl) (pe_op op_addU (pv 4) (pe_ix (ix_U hu1) (pv 1) (pe_op op_mod (pe_callTy call_intU (by rfl) W.n_int bb_int (pa_cons (pv 3) pa_nil)) (pe_callB call_lenU (by rfl) W.n_len bb_len (pa_cons (pv 1) pa_nil))) (fun _ _ => rfl))))
      (pss_one (ps_set (i := 3) sc__law_text.nd rfl (by first | exact Or.inl rfl | exact Or.inr rfl) (pe_op op_fdivW (pv 3) (pe_callB call_lenU (by rfl) W.n_len bb_len (pa_cons (pv 1) pa_nil)))))))
      (pss_one (ps_ret (pv 4)))))))))), ?_⟩
    -- long texts
    refine ⟨fun σ H' => σ = L2.start N__law_text [V.int x] ∧ H' = H, ?_, ?_⟩
    · refine ⟨_, rfl, _, _, rfl, rfl, (by show (0 : Int) < 12; decide), ?_⟩
      refine ⟨rfl, _, rfl, ?_⟩
      refine ite_eq (I_dec _ _) (iteD (fun h0 => ?_) (fun h0 => ⟨rfl, rfl⟩))
      refine ⟨_, rfl, _, _, rfl, rfl, ⟨by decide, by decide⟩, ?_⟩
      refine ⟨_, _, rfl, rfl, (by show (0 : Int) < 2; decide), ?_⟩
      have e1 := Int.emod_nonneg (x / 24) (by decide : (7 : Int) ≠ 0)
      have e2 := Int.emod_lt_of_pos (x / 24) (by decide : (0 : Int) < 7)
      refine ⟨rfl, _, rfl, ?_⟩
      refine ite_eq (I_dec _ _) (iteD (fun h1 => ?_) (fun h1 => ?_))
      · refine ⟨_, rfl, _, _, rfl, rfl, ⟨by decide, by decide⟩, ?_⟩
        refine ⟨_, _, rfl, rfl, (by show (0 : Int) < 7; decide), ?_⟩
        refine ⟨97, 3997 + x / 24 % 7, rfl, rfl, by omega, by omega, k _ ?_⟩
        rw [rep_len]
        omega
      · refine ⟨_, rfl, _, _, rfl, rfl, ⟨by decide, by decide⟩, ?_⟩
        refine ⟨_, _, rfl, rfl, (by show (0 : Int) < 7; decide), ?_⟩
        refine ⟨98, 3997 + x / 24 % 7, rfl, rfl, by omega, by omega, k _ ?_⟩
        rw [rep_len]
        omega
    rintro σ H1 ⟨rfl, rfl⟩
    refine ⟨_, rfl, _, _, rfl, rfl, ⟨by decide, by decide⟩, ?_⟩
    refine ⟨_, _, rfl, rfl, (by show (0 : Int) < 4; decide), ?_⟩
    -- the signs
    refine ⟨fun σ H' => (∃ (ch : List Nat) (n : Int), σ = [some (.int x), some (.str (T ch)), some (.int n), none, none, none] ∧ 0 < ch.length ∧ ch.length ≤ 200 ∧ 0 ≤ n ∧ n ≤ 7) ∧ H' = H1, ?_, ?_⟩
    · refine ⟨_, rfl, _, _, rfl, rfl, (by show (0 : Int) < 12; decide), ?_⟩
      refine ⟨_, _, rfl, rfl, (by show (0 : Int) < 2; decide), ?_⟩
      refine ⟨rfl, _, rfl, ?_⟩
      refine ite_eq (I_dec _ _) (iteD (fun h0 => ?_) (fun h0 => ?_))
      · refine ⟨_, rfl, ⟨by decide, ?_⟩⟩
        refine ⟨_, rfl, _, _, rfl, rfl, ⟨by decide, by decide⟩, ?_⟩
        refine ⟨_, _, rfl, rfl, (by show (0 : Int) < 7; decide), ?_⟩
        have e1 := Int.emod_nonneg (x / 12) (by decide : (7 : Int) ≠ 0)
        have e2 := Int.emod_lt_of_pos (x / 12) (by decide : (0 : Int) < 7)
        refine ⟨⟨CHA ++ CHB, x / 12 % 7, ?_, by decide, by decide, by omega, by omega⟩, rfl⟩
        rw [← T_app]
        rfl
      · have e1 := Int.emod_nonneg (x / 12) (by decide : (4 : Int) ≠ 0)
        have e2 := Int.emod_lt_of_pos (x / 12) (by decide : (0 : Int) < 4)
        exact ⟨⟨CHC, x / 12 % 4, rfl, by decide, by decide, by omega, by omega⟩, rfl⟩
    rintro σ H2 ⟨⟨ch, n, rfl, c0, c1, n0, n1⟩, rfl⟩
    refine ⟨_, rfl, _, _, rfl, rfl, ⟨by decide, by decide⟩, ?_⟩
    obtain ⟨nn, rfl⟩ : ∃ nn : Nat, n = nn := ⟨n.toNat, by omega⟩
    refine ⟨_, rfl, ?_⟩
    refine ⟨_, rfl, by show -(2 ^ 62) ≤ ((nn : Nat) : Int); omega, by show ((nn : Nat) : Int) < 2 ^ 62; omega, for_range (lo := 0) (n := nn) (fun i σ H' => (∃ (l : List Nat) (r : Int) (v5 : Option V), σ = [some (.int x), some (.str (T ch)), some (.int nn), some (.int r), some (.str (T l)), v5] ∧ l.length = i) ∧ H' = H2)
      ⟨⟨[], _, _, rfl, rfl⟩, rfl⟩ (fun i σ H' hi hI => ?_) (fun σ H' hI => ?_)⟩
    · obtain ⟨⟨l, r, v5, rfl, hl⟩, rfl⟩ := hI
      have lc : (T ch).length = ch.length := T_len ch
      have m1 := Int.emod_nonneg r (by omega : (ch.length : Int) ≠ 0)
      have m2 := Int.emod_lt_of_pos r (by omega : (0 : Int) < ch.length)
      obtain ⟨j, hj⟩ : ∃ j : Nat, r % (ch.length : Int) = j := ⟨(r % (ch.length : Int)).toNat, by omega⟩
      obtain ⟨u, hu⟩ : ∃ u, ch[j]? = some u := ⟨ch[j]'(by omega), List.getElem?_eq_getElem (by omega)⟩
      refine ⟨_, rfl, _, rfl, _, rfl, ?_⟩
      refine ⟨_, rfl, by rw [lc, sizeLine_eq]; omega, ?_⟩
      rw [lc]
      refine ⟨_, _, rfl, rfl, (by omega), ?_⟩
      show rIxU _ (V.str (T ch)) (V.int (r % (ch.length : Int))) _ _
      rw [hj]
      refine ⟨_, _, rfl, by rw [lc, sizeLine_eq]; omega, atI_nat (j := j) hu, ?_⟩
      refine ⟨by rw [T_len, sizeLine_eq]; show l.length + 1 ≤ _; omega, ?_⟩
      refine ⟨_, rfl, _, rfl, by rw [lc, sizeLine_eq]; omega, ?_⟩
      rw [lc]
      refine ⟨_, _, rfl, rfl, divx (divc ch.length (by omega) (by omega)), ?_⟩
      refine ⟨⟨l ++ [u], r / (ch.length : Int), some (.int (0 + (i : Int))), ?_, by rw [List.length_append, hl]; rfl⟩, rfl⟩
      rw [← T_app]
      rfl
    · obtain ⟨⟨l, r, v5, rfl, hl⟩, rfl⟩ := hI
      refine ⟨_, rfl, k _ ?_⟩
      rw [T_len]
      omega
end
section
variable {P : Program} {w : World} {K : PySem.W.Frag} {mg : Str → Option Value} {base : Heap}
def sp_isL : Sp := fun vs H Q _ => ((∃ a : Int, vs = [.int a, .int a]) ∨ ∃ z : Str, vs = [.str z, .str z]) ∧ Q (.bl true) H
theorem ok__law_is (W : Wd P K mg) : FnOk P w K mg base CX0 1 W.f__law_is W.fd__law_is ["_law_actual", "_law_due"] sp_isL := by
  refine W.F__law_is.ok sc__law_is (fun vs H Q E h => ?_) (fun cdv A outer s H vs Q E hr h => ?_)
  · obtain ⟨⟨n, rfl⟩ | ⟨b, rfl⟩, _⟩ := h <;> rfl
  · obtain ⟨h, k⟩ := h
    have hu1 := hu_of hr
    have hu64 := hu64_of hr
    refine ⟨_, (pss_cons (ps_if (pt_truth (pe_callB call_isi (by rfl) W.n_isinstance bb_isinstance (pa_cons (pv 1) (pa_cons (pe_bt rfl W.n_str bb_str) pa_nil))) (by intro _; rfl)) (pss_one (ps_ret (pe_and (pe_callB call_isi (by rfl) W.n_isinstance bb_isinstance (pa_cons (pv 0) (pa_cons (pe_bt rfl W.n_str bb_str) pa_nil))) (pe_one (pe_cmpR (op_eqU hu64) (pv 0) (pv 1) (by first | exact nomark _ | rfl)))))) pss_nil)
      (pss_one (ps_ret (pe_and (pe_callB call_isi (by rfl) W.n_isinstance bb_isinstance (pa_cons (pv 0) (pa_cons (pe_bt rfl W.n_int bb_int) pa_nil))) (pe_and (pe_notT (pe_callB call_isi (by rfl) W.n_isinstance bb_isinstance (pa_cons (pv 0) (pa_cons (pe_bt rfl W.n_bool bb_bool) pa_nil)))) (pe_one (pe_cmpR (op_eqU hu64) (pv 0) (pv 1) (by first | exact nomark _ | rfl)))))))), ?_⟩
    rcases h with ⟨n, rfl⟩ | ⟨z, rfl⟩
    · refine ⟨_, rfl, ?_⟩
      refine ⟨_, _, _, _, _, rfl, ClsV.ty _, TyX.base (TyOf.int _), kt_int_str, ?_⟩
      refine ⟨_, rfl, ?_⟩
      refine iteF ?_
      refine ⟨_, rfl, ?_⟩
      refine ⟨_, _, _, _, _, rfl, ClsV.ty _, TyX.base (TyOf.int _), kt_int_int, ?_⟩
      refine ⟨_, rfl, ?_⟩
      refine iteT ?_
      refine ⟨_, rfl, ?_⟩
      refine ⟨_, _, _, _, _, rfl, ClsV.ty _, TyX.base (TyOf.int _), kt_int_bool, ?_⟩
      refine ⟨_, rfl, _, rfl, iteT ?_⟩
      refine ⟨_, rfl, _, rfl, rfl, ?_⟩
      show Q (.bl (decide (V.int n = V.int n))) H
      rw [decide_eq_true rfl]
      exact k
    · refine ⟨_, rfl, ?_⟩
      refine ⟨_, _, _, _, _, rfl, ClsV.ty _, TyX.base (TyOf.str _), kt_str_str, ?_⟩
      refine ⟨_, rfl, ?_⟩
      refine iteT ?_
      refine ⟨_, rfl, ?_⟩
      refine ⟨_, _, _, _, _, rfl, ClsV.ty _, TyX.base (TyOf.str _), kt_str_str, ?_⟩
      refine ⟨_, rfl, ?_⟩
      refine iteT ?_
      refine ⟨_, rfl, _, rfl, rfl, ?_⟩
      show Q (.bl (decide (V.str z = V.str z))) H
      rw [decide_eq_true rfl]
      exact k
end

end LX
namespace LX
open PySem PySem.Spec PyProof.Rows L2 NdefX
section
variable {P : Program} {w : World} {K : PySem.W.Frag} {mg : Str → Option Value} {base : Heap}
def TNum : Str := T [110, 117, 109, 98, 101, 114]
def TErr : Str := T [101, 114, 114, 111, 114]
structure Law1 (H : Hp) (C sy dx tl nl lt : Addr) (most : Int) (L : List Str) : Prop where
  S : SymAt H C sy dx tl nl most L
  g : H lt = some (.lst (L.map V.str))
  ne : lt ≠ tl
theorem Law1.keep {H H' : Hp} {C sy dx tl nl lt : Addr} {most : Int} {L : List Str} (S : Law1 H C sy dx tl nl lt most L) {F : List Addr} (f : Fr F H H') (h : ∀ b ∈ [sy, tl, nl, lt], b ∉ F) : Law1 H' C sy dx tl nl lt most L :=
  ⟨S.S.keep f (fun b hb => h b (by simp only [List.mem_cons, List.not_mem_nil, or_false] at hb ⊢; rcases hb with e | e | e <;> simp [e])), f _ _ S.g (h _ (by simp)), S.ne⟩
def Due (L : List Str) (most : Int) (z : Str) (t : Str) (n : Int) (L' : List Str) : Prop :=
  (∃ i : Nat, L[i]? = some z ∧ t = TNum ∧ n = i ∧ L' = L) ∨ (z ∉ L ∧ 4000 < z.length ∧ t = TErr ∧ n = 4000 ∧ L' = L) ∨
  (z ∉ L ∧ ¬ 4000 < z.length ∧ most ≤ L.length ∧ t = TErr ∧ n = most ∧ L' = L) ∨ (z ∉ L ∧ ¬ 4000 < z.length ∧ ¬ most ≤ L.length ∧ t = TNum ∧ n = L.length ∧ L' = L ++ [z])
theorem all_flat (L : List Str) : (L.map V.str).all flatV = true := by
  rw [List.all_eq_true]
  intro v hv
  obtain ⟨z, _, rfl⟩ := List.mem_map.mp hv
  rfl
theorem inV_str (L : List Str) (z : Str) : inV (.str z) (L.map V.str) = decide (z ∈ L) := by
  unfold inV
  rw [List.any_map]
  by_cases h : z ∈ L
  · rw [decide_eq_true h]
    exact List.any_eq_true.mpr ⟨z, h, by show (z == z) = true; simp⟩
  · rw [decide_eq_false h]
    refine List.any_eq_false.mpr fun x hx => ?_
    show ¬ (x == z) = true
    intro e
    have : x = z := by simpa using e
    exact h (this ▸ hx)
theorem firstS {l : List Str} {n : Str} (h : n ∈ l) : ∃ j : Nat, l[j]? = some n ∧ ∀ (m : Nat) (z : Str), m < j → l[m]? = some z → z ≠ n := by
  induction l with
  | nil => simp at h
  | cons a r ih =>
    by_cases e : a = n
    · exact ⟨0, by rw [e]; rfl, fun m z hm => by omega⟩
    · obtain ⟨j, h1, h2⟩ := ih ((List.mem_cons.mp h).resolve_left fun z => e z.symm)
      refine ⟨j + 1, h1, fun m z hm hz => ?_⟩
      cases m with
      | zero => cases hz; exact e
      | succ m => exact h2 m z (by omega) hz
def sp_asked : Addr → Sp := fun C vs H Q _ => ∃ sy dx tl nl lt most L z, vs = [.ref sy, .ref lt, .int most, .str z] ∧ Law1 H C sy dx tl nl lt most L ∧ z.length ≤ 5000 ∧ L.length < 99999 ∧ StrOk (.int most) ∧
  ∀ H' L', Law1 H' C sy dx tl nl lt most L' → L'.length ≤ L.length + 1 → Fr [tl, nl, lt] H H' → Q (.bl true) H'
theorem ok__law_asked (W : Wd P K mg) : FnOk P w K mg base CX0 4 W.f__law_asked W.fd__law_asked ["_law_symbols", "_law_texts", "_law_most", "_law_text_here"] (sp_asked W.c_Symbols) := by
  refine W.F__law_asked.ok sc__law_asked (fun vs H Q E h => ?_) (fun cdv A outer s H vs Q E hr h => ?_)
  · obtain ⟨sy, dx, tl, nl, lt, most, L, z, rfl, _⟩ := h
    rfl
  · obtain ⟨sy, dx, tl, nl, lt, most, L, z, rfl, S, hz, hl, hm, k⟩ := h
    have hu1 := hu_of hr
    have hu64 := hu64_of hr
    have n1 : lt ≠ sy := ne_of S.g S.S.sy (by intro z; cases z)
    have n2 : lt ≠ nl := ne_of S.g S.S.nl (by intro z; cases z)
    refine ⟨_, (pss_cons (ps_set (i := 4) sc__law_asked.nd rfl (by first | exact Or.inl rfl | exact Or.inr rfl) (pe_tup (pa_cons (pe_strT (show (PySem.Str.ofString "number") = T [110, 117, 109, 98, 101, 114] by decide +kernel)) (pa_cons (pe_callB call_lenU (by rfl) W.n_len bb_len (pa_cons (pv 1) pa_nil)) pa_nil))))
      (Evl.pss_cut (ps_if (pt_cmpR (op_inU hu1) (pv 3) (pv 1) (by first | exact nomark _ | rfl)) (pss_one (ps_set (i := 4) sc__law_asked.nd rfl (by first | exact Or.inl rfl | exact Or.inr rfl) (pe_tup (pa_cons (pe_strT (show (PySem.Str.ofString "number") = T [110, 117, 109, 98, 101, 114] by decide +kernel)) (pa_cons (pe_bm PySem.F.plainAttrs_list PySem.F.slot_list_index PySem.F.type_list_index mt_index (pv 1) (pa_cons (pv 3) pa_nil)) pa_nil))))) (pss_one (ps_if (pt_cmpR op_gtU (pe_callB call_lenU (by rfl) W.n_len bb_len (pa_cons (pv 3) pa_nil)) pe_int (by first | exact nomark _ | rfl)) (pss_one (ps_set (i := 4) sc__law_asked.nd rfl (by first | exact Or.inl rfl | exact Or.inr rfl) (pe_tup (pa_cons (pe_strT (show (PySem.Str.ofString "error") = T [101, 114, 114, 111, 114] by decide +kernel)) (pa_cons pe_int pa_nil))))) (pss_one (ps_if (pt_cmpR op_geU (pe_callB call_lenU (by rfl) W.n_len bb_len (pa_cons (pv 1) pa_nil)) (pv 2) (by first | exact nomark _ | rfl)) (pss_one (ps_set (i := 4) sc__law_asked.nd rfl (by first | exact Or.inl rfl | exact Or.inr rfl) (pe_tup (pa_cons (pe_strT (show (PySem.Str.ofString "error") = T [101, 114, 114, 111, 114] by decide +kernel)) (pa_cons (pv 2) pa_nil))))) (pss_one (ps_expr (pe_bm PySem.F.plainAttrs_list PySem.F.slot_list_append PySem.F.type_list_append mt_append (pv 1) (pa_cons (pv 3) pa_nil)))))))))
      (Evl.pss_cut (ps_tryAs (K := K) (i := 5) rfl rfl rfl sc__law_asked.nd rfl rfl ⟨rfl, by decide, .inl W.g_SaggarError⟩ takes0N (fun _ pn xe tk _ => (pss_one (ps_set (i := 6) sc__law_asked.nd rfl (by first | exact Or.inl rfl | exact Or.inr rfl) (pe_tup (pa_cons (pe_strT (show (PySem.Str.ofString "number") = T [110, 117, 109, 98, 101, 114] by decide +kernel)) (pa_cons (pe_methAt (pv 0) W.C_Symbols W.m_Symbols_number (ok_Symbols_number W) (hr.mono (by decide)) W.b_Symbols_number (fun σ => L2N.passAt tk σ) (pa_cons (pv 3) pa_nil)) pa_nil)))))) (fun a oe cls d pn hz hf => (pss_cons (ps_if (PW.pt (pw_or (pt_not (pt_truthK (K := K) rfl (pe_callB (call_isPK (K := K) rfl List.mem_cons_self (show PinE cls d oe from ⟨hz, hf⟩)) (by rfl) W.n_isinstance bb_isinstance (pa_cons (pv 5) (pa_cons (pe_gr rfl W.g_NoSymbol) pa_nil))) (by intro _; rfl))) (pw_or1 (pt_not (pt_truthK (K := K) rfl (pe_callB (call_isPK (K := K) rfl List.mem_cons_self (show PinE cls d oe from ⟨hz, hf⟩)) (by rfl) W.n_isinstance bb_isinstance (pa_cons (pv 5) (pa_cons (pe_bt rfl W.n_ValueError bb_ValueError) pa_nil))) (by intro _; rfl)))))) (pss_one (ps_ret pe_bl)) pss_nil)
      (pss_one (ps_set (i := 6) sc__law_asked.nd rfl (by first | exact Or.inl rfl | exact Or.inr rfl) (pe_tup (pa_cons (pe_strT (show (PySem.Str.ofString "error") = T [101, 114, 114, 111, 114] by decide +kernel)) (pa_cons (pe_xfPK (K := K) rfl List.mem_cons_self (show PinE cls d oe from ⟨hz, hf⟩) (pv 5)) pa_nil))))))))
      (pss_one (ps_ret (pe_and (pe_cmpR (op_eqU hu64) (pe_ix (ix_U hu1) (pv 6) pe_int (fun _ _ => rfl)) (pe_ix (ix_U hu1) (pv 4) pe_int (fun _ _ => rfl)) (by first | exact nomark _ | rfl)) (pe_one (pe_call (ok__law_is W) (hr.mono (by decide)) rfl W.g__law_is W.F__law_is.kp W.b__law_is .nil pass0 (pa_cons (pe_ix (ix_U hu1) (pv 6) pe_int (fun _ _ => rfl)) (pa_cons (pe_ix (ix_U hu1) (pv 4) pe_int (fun _ _ => rfl)) pa_nil)))))))))), ?_⟩
    refine ⟨_, rfl, ?_⟩
    refine Or.inl ⟨_, Or.inl (SqL.of S.g), ?_⟩
    rw [List.length_map]
    refine ⟨(by show 2 ≤ sizeLine; decide), fun d0 hd0 => ?_⟩
    have f1 : Fr [] H (upd H d0 (.tup [.str TNum, .int L.length])) := Fr.new hd0
    have g1 : upd H d0 (.tup [.str TNum, .int L.length]) d0 = some (.tup [.str TNum, .int L.length]) := upd_same
    have S1 := S.keep f1 (by simp)
    have nd : lt ≠ d0 := ne_of_none S.g hd0
    show gName 4 (V.ref d0) _ (upd H d0 (.tup [.str TNum, .int L.length])) _
    generalize upd H d0 (.tup [.str TNum, .int L.length]) = H1 at f1 g1 S1
    refine ⟨fun σ H' => ∃ (da : Addr) (t : Str) (n : Int) (L' : List Str), σ = [some (.ref sy), some (.ref lt), some (.int most), some (.str z), some (.ref da), none, none] ∧ H' da = some (.tup [.str t, .int n]) ∧ H' lt = some (.lst (L'.map V.str)) ∧ Due L most z t n L' ∧ Fr [lt] H H' ∧ SymAt H' W.c_Symbols sy dx tl nl most L, ?_, ?_⟩
    · refine ⟨_, rfl, _, rfl, Or.inl ⟨_, Or.inl (SqL.of S1.g), rfl, all_flat L, ?_⟩⟩
      rw [inV_str]
      refine ⟨_, rfl, ?_⟩
      refine iteD (fun h1 => ?_) (fun h1 => ?_)
      · obtain ⟨j, hj, hlt⟩ := firstS h1
        refine ⟨_, rfl, Or.inl ⟨rfl, _, SqL.of S1.g⟩, ?_⟩
        refine ⟨_, rfl, ?_⟩
        refine ⟨lt, _, _, j, _, rfl, rfl, SqL.of S1.g, rfl, all_flat L, str_at hj, (by show (z == z) = true; simp), (fun m z' hm hz' => ?_), ?_⟩
        · rw [List.getElem?_map] at hz'
          obtain ⟨y, hy, rfl⟩ := Option.map_eq_some_iff.mp hz'
          have := hlt m y hm hy
          show (y == z) = false
          simpa using this
        · refine ⟨(by show 2 ≤ sizeLine; decide), fun d1 hd1 => ?_⟩
          have f2 : Fr [] H1 (upd H1 d1 (.tup [.str TNum, .int j])) := Fr.new hd1
          have S2 := S1.keep f2 (by simp)
          exact ⟨d1, TNum, j, L, rfl, upd_same, S2.g, Or.inl ⟨j, hj, rfl, rfl, rfl⟩, (f1.trans f2).mono (by simp), S2.S⟩
      · refine ⟨_, rfl, (by rw [sizeLine_eq]; omega), ?_⟩
        refine ⟨_, rfl, ?_⟩
        refine iteD (fun h2 => ?_) (fun h2 => ?_)
        · have h2 : 4000 < z.length := by have : (4000 : Int) < z.length := h2; omega
          refine ⟨(by show 2 ≤ sizeLine; decide), fun d1 hd1 => ?_⟩
          have f2 : Fr [] H1 (upd H1 d1 (.tup [.str TErr, .int 4000])) := Fr.new hd1
          have S2 := S1.keep f2 (by simp)
          exact ⟨d1, TErr, 4000, L, rfl, upd_same, S2.g, Or.inr (Or.inl ⟨h1, h2, rfl, rfl, rfl⟩), (f1.trans f2).mono (by simp), S2.S⟩
        · have h2 : ¬ 4000 < z.length := by have : ¬ (4000 : Int) < z.length := h2; omega
          refine ⟨_, rfl, Or.inl ⟨_, Or.inl (SqL.of S1.g), ?_⟩⟩
          rw [List.length_map]
          refine ⟨_, rfl, ?_⟩
          refine ⟨_, rfl, ?_⟩
          refine iteD (fun h3 => ?_) (fun h3 => ?_)
          · refine ⟨_, rfl, ?_⟩
            refine ⟨(by show 2 ≤ sizeLine; decide), fun d1 hd1 => ?_⟩
            have f2 : Fr [] H1 (upd H1 d1 (.tup [.str TErr, .int most])) := Fr.new hd1
            have S2 := S1.keep f2 (by simp)
            exact ⟨d1, TErr, most, L, rfl, upd_same, S2.g, Or.inr (Or.inr (Or.inl ⟨h1, h2, h3, rfl, rfl, rfl⟩)), (f1.trans f2).mono (by simp), S2.S⟩
          · refine ⟨_, rfl, Or.inl ⟨rfl, _, SqL.of S1.g⟩, ?_⟩
            refine ⟨_, rfl, ?_⟩
            refine ⟨lt, _, _, rfl, rfl, S1.g, (by rw [List.length_map, sizeLine_eq]; omega), ?_⟩
            have e2 : L.map V.str ++ [V.str z] = (L ++ [z]).map V.str := by rw [List.map_append]; rfl
            rw [e2]
            have f2 : Fr [lt] H1 (upd H1 lt (.lst ((L ++ [z]).map V.str))) := Fr.at (by simp)
            refine ⟨d0, TNum, L.length, L ++ [z], rfl, by rw [upd_ne nd.symm]; exact g1, upd_same, Or.inr (Or.inr (Or.inr ⟨h1, h2, h3, rfl, rfl, rfl⟩)), (f1.mono (by simp)).trans f2, S1.S.keep f2 (fun b hb => ?_)⟩
            simp only [List.mem_cons, List.not_mem_nil, or_false] at hb ⊢
            rcases hb with e | e | e
            · rw [e]; exact n1.symm
            · rw [e]; exact S.ne.symm
            · rw [e]; exact n2.symm
    clear f1 g1 S1
    rintro σ H2 ⟨da, t, n, L', rfl, gd, gl, due, f2, S2⟩
    have o1 : da ≠ tl := ne_of gd S2.tl (by intro z; cases z)
    have o2 : da ≠ nl := ne_of gd S2.nl (by intro z; cases z)
    refine ⟨fun σ H' => ∃ (ta : Addr) (v5 : Option V), σ = [some (.ref sy), some (.ref lt), some (.int most), some (.str z), some (.ref da), v5, some (.ref ta)] ∧ H' ta = some (.tup [.str t, .int n]) ∧ H' da = some (.tup [.str t, .int n]) ∧ H' lt = some (.lst (L'.map V.str)) ∧ Fr [tl, nl, lt] H H' ∧ SymAt H' W.c_Symbols sy dx tl nl most L', ?_, ?_⟩
    · have good : ∀ (H3 : Hp) (tg : Addr) (t' : Str) (n' : Int), t' = t → n' = n → SymAt H3 W.c_Symbols sy dx tl nl most L' → Fr [tl, nl] H2 H3 → H3 tg = none → ∃ (ta : Addr) (v5 : Option V), [some (.ref sy), some (.ref lt), some (.int most), some (.str z), some (.ref da), none, some (.ref tg)] = [some (V.ref sy), some (.ref lt), some (.int most), some (.str z), some (.ref da), v5, some (.ref ta)] ∧ upd H3 tg (.tup [.str t', .int n']) ta = some (.tup [.str t, .int n]) ∧ upd H3 tg (.tup [.str t', .int n']) da = some (.tup [.str t, .int n]) ∧ upd H3 tg (.tup [.str t', .int n']) lt = some (.lst (L'.map V.str)) ∧ Fr [tl, nl, lt] H (upd H3 tg (.tup [.str t', .int n'])) ∧ SymAt (upd H3 tg (.tup [.str t', .int n'])) W.c_Symbols sy dx tl nl most L' := by
        intro H3 tg t' n' e1 e2 S3 f3 h3
        subst e1 e2
        have f4 : Fr [] H3 (upd H3 tg (.tup [.str t', .int n'])) := Fr.new h3
        have ga : H3 da = some (.tup [.str t', .int n']) := f3 _ _ gd (by simp [o1, o2])
        have gb : H3 lt = some (.lst (L'.map V.str)) := f3 _ _ gl (by simp [S.ne, n2])
        exact ⟨tg, none, rfl, upd_same, f4 _ _ ga (by simp), f4 _ _ gb (by simp), ((f2.mono (by simp)).trans (f3.mono (by simp))).trans (f4.mono (by simp)), S3.keep f4 (by simp)⟩
      refine ⟨_, rfl, sy, dx, _, rfl, S2.sy, rfl, ?_⟩
      refine ⟨_, rfl, ?_⟩
      refine ⟨sy, dx, tl, nl, most, L, z, rfl, S2, (fun _ => by rw [sizeLine_eq]; omega), (by omega), hm, fun i hi => ?_, fun a1 a2 d hd => ?_, fun a1 a2 a3 d hd => ?_, fun a1 a2 a3 H3 S3 f3 => ?_⟩
      · have e : t = TNum ∧ n = i ∧ L' = L := by
          rcases due with ⟨j, hj, h1, h2, h3⟩ | ⟨h0, _⟩ | ⟨h0, _⟩ | ⟨h0, _⟩
          · have := (List.getElem?_inj (l := L) (i := j) (j := i) (List.getElem?_eq_some_iff.mp hj).1 S2.nd).mp (by rw [hj, hi])
            exact ⟨h1, by rw [h2, this], h3⟩
          · exact absurd (List.mem_of_getElem? hi) h0
          · exact absurd (List.mem_of_getElem? hi) h0
          · exact absurd (List.mem_of_getElem? hi) h0
        obtain ⟨rfl, rfl, rfl⟩ := e
        exact ⟨(by show 2 ≤ sizeLine; decide), fun q hq => good H2 q TNum _ rfl rfl S2 Fr.rfl' hq⟩
      · have e : t = TErr ∧ n = 4000 ∧ L' = L := by
          rcases due with ⟨j, hj, h1, h2, h3⟩ | ⟨h0, h1, h2, h3, h4⟩ | ⟨h0, h1, _⟩ | ⟨h0, h1, _⟩
          · exact absurd (List.mem_of_getElem? hj) a1
          · exact ⟨h2, h3, h4⟩
          · exact absurd a2 h1
          · exact absurd a2 h1
        obtain ⟨rfl, rfl, rfl⟩ := e
        refine ⟨true, W.em_S, fun _ a ha => ?_, fun z => nomatch z⟩
        have hd' : L2.upd H2 d (.xd [("limit", V.int 4000)]) d = some (.xd [("limit", V.int 4000)]) := upd_same
        have f5 : Fr [] H2 (L2.upd H2 d (.xd [("limit", V.int 4000)])) := Fr.new hd
        have S5 := S2.keep f5 (by simp)
        generalize L2.upd H2 d (.xd [("limit", V.int 4000)]) = H5 at hd' f5 S5
        refine ⟨_, rfl, ?_⟩
        refine ⟨_, _, _, _, rfl, W.E_NoSymbol, rfl, ClsV.own _, W.kb_S, (fun dd e => by cases e; exact ⟨_, hd'⟩), ?_⟩
        refine ⟨_, rfl, iteF ?_⟩
        refine ⟨_, rfl, ?_⟩
        refine ⟨_, _, _, _, rfl, W.E_NoSymbol, rfl, ClsV.ty _, W.kb_V, (fun dd e => by cases e; exact ⟨_, hd'⟩), ?_⟩
        refine ⟨_, rfl, iteF ?_⟩
        refine ⟨_, rfl, rfl, _, d, _, _, rfl, W.E_NoSymbol, W.xn_NoSymbol_limit, rfl, hd', rfl, ?_⟩
        refine ⟨(by show 2 ≤ sizeLine; decide), fun q hq => ?_⟩
        exact good H5 q TErr _ rfl rfl S5 (f5.mono (by simp)) hq
      · have e : t = TErr ∧ n = most ∧ L' = L := by
          rcases due with ⟨j, hj, h1, h2, h3⟩ | ⟨h0, h1, h2, h3, h4⟩ | ⟨h0, h1, h2, h3, h4, h5⟩ | ⟨h0, h1, h2, _⟩
          · exact absurd (List.mem_of_getElem? hj) a1
          · exact absurd h1 a2
          · exact ⟨h3, h4, h5⟩
          · exact absurd a3 h2
        obtain ⟨rfl, rfl, rfl⟩ := e
        refine ⟨true, W.em_S, fun _ a ha => ?_, fun z => nomatch z⟩
        have hd' : L2.upd H2 d (.xd [("limit", V.int n)]) d = some (.xd [("limit", V.int n)]) := upd_same
        have f5 : Fr [] H2 (L2.upd H2 d (.xd [("limit", V.int n)])) := Fr.new hd
        have S5 := S2.keep f5 (by simp)
        generalize L2.upd H2 d (.xd [("limit", V.int n)]) = H5 at hd' f5 S5
        refine ⟨_, rfl, ?_⟩
        refine ⟨_, _, _, _, rfl, W.E_NoSymbol, rfl, ClsV.own _, W.kb_S, (fun dd e => by cases e; exact ⟨_, hd'⟩), ?_⟩
        refine ⟨_, rfl, iteF ?_⟩
        refine ⟨_, rfl, ?_⟩
        refine ⟨_, _, _, _, rfl, W.E_NoSymbol, rfl, ClsV.ty _, W.kb_V, (fun dd e => by cases e; exact ⟨_, hd'⟩), ?_⟩
        refine ⟨_, rfl, iteF ?_⟩
        refine ⟨_, rfl, rfl, _, d, _, _, rfl, W.E_NoSymbol, W.xn_NoSymbol_limit, rfl, hd', rfl, ?_⟩
        refine ⟨(by show 2 ≤ sizeLine; decide), fun q hq => ?_⟩
        exact good H5 q TErr _ rfl rfl S5 (f5.mono (by simp)) hq
      · have e : t = TNum ∧ n = L.length ∧ L' = L ++ [z] := by
          rcases due with ⟨j, hj, h1, h2, h3⟩ | ⟨h0, h1, h2, h3, h4⟩ | ⟨h0, h1, h2, _⟩ | ⟨h0, h1, h2, h3, h4, h5⟩
          · exact absurd (List.mem_of_getElem? hj) a1
          · exact absurd h1 a2
          · exact absurd h2 a3
          · exact ⟨h3, h4, h5⟩
        obtain ⟨rfl, rfl, rfl⟩ := e
        exact ⟨(by show 2 ≤ sizeLine; decide), fun q hq => good H3 q TNum _ rfl rfl S3 f3 hq⟩
    clear f2 S2 gl gd
    rintro σ H6 ⟨ta, v5, rfl, gt, gd, gl, f6, S6⟩
    refine ⟨_, rfl, Or.inl ⟨_, _, _, rfl, Or.inr (SqT.of gt), atI_nat (j := 0) rfl, ?_⟩⟩
    refine ⟨_, rfl, Or.inl ⟨_, _, _, rfl, Or.inr (SqT.of gd), atI_nat (j := 0) rfl, ?_⟩⟩
    refine ⟨rfl, ?_⟩
    refine ⟨_, rfl, ?_⟩
    refine iteD (fun _ => ?_) (fun h => absurd rfl h)
    refine ⟨_, rfl, Or.inl ⟨_, _, _, rfl, Or.inr (SqT.of gt), atI_nat (j := 1) rfl, ?_⟩⟩
    refine ⟨_, rfl, Or.inl ⟨_, _, _, rfl, Or.inr (SqT.of gd), atI_nat (j := 1) rfl, ?_⟩⟩
    refine ⟨Or.inl ⟨n, rfl⟩, ?_⟩
    refine k H6 L' ⟨S6, gl, S.ne⟩ ?_ f6
    rcases due with ⟨j, hj, h1, h2, h3⟩ | ⟨h0, h1, h2, h3, h4⟩ | ⟨h0, h1, h2, h3, h4, h5⟩ | ⟨h0, h1, h2, h3, h4, h5⟩
    · rw [h3]; omega
    · rw [h4]; omega
    · rw [h5]; omega
    · rw [h5, List.length_append]; simp
end

end LX
namespace LX
open PySem PySem.Spec PyProof.Rows L2 NdefX
section
variable {P : Program} {w : World} {K : PySem.W.Frag} {mg : Str → Option Value} {base : Heap}
def sp_agrees : Addr → Sp := fun C vs H Q _ => ∃ sy dx tl nl lt most L, vs = [.ref sy, .ref lt] ∧ Law1 H C sy dx tl nl lt most L ∧ L.length < 99999 ∧ StrOk (.int most) ∧
  ∀ H', Fr [] H H' → Q (.bl true) H'
theorem ok__law_agrees (W : Wd P K mg) : FnOk P w K mg base CX0 4 W.f__law_agrees W.fd__law_agrees ["_law_symbols", "_law_texts"] (sp_agrees W.c_Symbols) := by
  refine W.F__law_agrees.ok sc__law_agrees (fun vs H Q E h => ?_) (fun cdv A outer s H vs Q E hr h => ?_)
  · obtain ⟨sy, dx, tl, nl, lt, most, L, rfl, _⟩ := h
    rfl
  · obtain ⟨sy, dx, tl, nl, lt, most, L, rfl, S, hl, hm, k⟩ := h
    have hu1 := hu_of hr
    have hu64 := hu64_of hr
    refine ⟨_, (pss_cons (ps_set (i := 2) sc__law_agrees.nd rfl (by first | exact Or.inl rfl | exact Or.inr rfl) (pe_meth0 (pv 0) W.C_Symbols W.m_Symbols_texts (ok_Symbols_texts W) (hr.mono (by decide)) W.b_Symbols_texts .nil pass0 ))
      (pss_cons (ps_if (PW.pt (pw_or (pt_not (pt_truth (pe_call (ok__law_is W) (hr.mono (by decide)) rfl W.g__law_is W.F__law_is.kp W.b__law_is .nil pass0 (pa_cons (pe_meth0 (pv 0) W.C_Symbols W.m_Symbols_count (ok_Symbols_count W) (hr.mono (by decide)) W.b_Symbols_count .nil pass0 ) (pa_cons (pe_callB call_lenU (by rfl) W.n_len bb_len (pa_cons (pv 1) pa_nil)) pa_nil))) (by intro _; rfl))) (pw_or (pt_not (pt_truth (pe_callB call_isi (by rfl) W.n_isinstance bb_isinstance (pa_cons (pv 2) (pa_cons (pe_bt rfl W.n_list bb_list) pa_nil))) (by intro _; rfl))) (pw_or1 (pt_cmpR (op_neU hu64) (pe_callB call_lenU (by rfl) W.n_len bb_len (pa_cons (pv 2) pa_nil)) (pe_callB call_lenU (by rfl) W.n_len bb_len (pa_cons (pv 1) pa_nil)) (by first | exact nomark _ | rfl)))))) (pss_one (ps_ret pe_bl)) pss_nil)
      (pss_cons (ps_for PassesOwn.never rfl (pi_range1 (by rfl) W.n_range (pa_cons (pe_callB call_lenU (by rfl) W.n_len bb_len (pa_cons (pv 1) pa_nil)) pa_nil)) (pg_name (i := 3) sc__law_agrees.nd rfl (by first | exact Or.inl rfl | exact Or.inr rfl)) (pss_cons (ps_if (PW.pt (pw_or (pt_not (pt_truth (pe_call (ok__law_is W) (hr.mono (by decide)) rfl W.g__law_is W.F__law_is.kp W.b__law_is .nil pass0 (pa_cons (pe_ix (ix_U hu1) (pv 2) (pv 3) (fun _ _ => rfl)) (pa_cons (pe_ix (ix_U hu1) (pv 1) (pv 3) (fun _ _ => rfl)) pa_nil))) (by intro _; rfl))) (pw_or1 (pt_not (pt_truth (pe_call (ok__law_is W) (hr.mono (by decide)) rfl W.g__law_is W.F__law_is.kp W.b__law_is .nil pass0 (pa_cons (pe_meth (pv 0) W.C_Symbols W.m_Symbols_text (ok_Symbols_text W) (hr.mono (by decide)) W.b_Symbols_text .nil pass0 (pa_cons (pv 3) pa_nil)) (pa_cons (pe_ix (ix_U hu1) (pv 1) (pv 3) (fun _ _ => rfl)) pa_nil))) (by intro _; rfl)))))) (pss_one (ps_ret pe_bl)) pss_nil)
      (pss_one (ps_if (PW.pt (pw_or (pt_not (pt_truth (pe_call (ok__law_is W) (hr.mono (by decide)) rfl W.g__law_is W.F__law_is.kp W.b__law_is .nil pass0 (pa_cons (pe_meth (pv 0) W.C_Symbols W.m_Symbols_number (ok_Symbols_number W) (hr.mono (by decide)) W.b_Symbols_number .nil passF (pa_cons (pe_ix (ix_U hu1) (pv 1) (pv 3) (fun _ _ => rfl)) pa_nil)) (pa_cons (pv 3) pa_nil))) (by intro _; rfl))) (pw_or1 (pt_cmpR op_isnotU (pe_meth (pv 0) W.C_Symbols W.m_Symbols_knows (ok_Symbols_knows W) (hr.mono (by decide)) W.b_Symbols_knows .nil pass0 (pa_cons (pe_ix (ix_U hu1) (pv 1) (pv 3) (fun _ _ => rfl)) pa_nil)) pe_bl (by first | exact nomark _ | rfl))))) (pss_one (ps_ret pe_bl)) pss_nil))))
      (pss_one (ps_ret pe_bl))))), ?_⟩
    refine ⟨_, rfl, sy, dx, _, rfl, S.S.sy, rfl, ?_⟩
    refine ⟨sy, dx, tl, nl, most, L, rfl, S.S, fun q hq => ?_⟩
    have f1 : Fr [] H (upd H q (.lst (L.map V.str))) := Fr.new hq
    have q1 : upd H q (.lst (L.map V.str)) q = some (.lst (L.map V.str)) := upd_same
    have S1 := S.keep f1 (by simp)
    show gName 2 (V.ref q) _ (upd H q (.lst (L.map V.str))) _
    generalize upd H q (.lst (L.map V.str)) = H1 at f1 q1 S1
    refine ⟨_, rfl, sy, dx, _, rfl, S1.S.sy, rfl, ?_⟩
    refine ⟨sy, dx, tl, nl, most, L, rfl, S1.S, ?_⟩
    refine ⟨_, rfl, Or.inl ⟨_, Or.inl (SqL.of S1.g), ?_⟩⟩
    rw [List.length_map]
    refine ⟨Or.inl ⟨L.length, rfl⟩, ?_⟩
    refine ⟨_, rfl, iteF ?_⟩
    refine ⟨_, rfl, ?_⟩
    refine ⟨_, _, _, _, _, rfl, ClsV.ty _, TyX.base (TyOf.lst q1), kt_list_list, ?_⟩
    refine ⟨_, rfl, iteF ?_⟩
    refine ⟨_, rfl, Or.inl ⟨_, Or.inl (SqL.of q1), ?_⟩⟩
    refine ⟨_, rfl, Or.inl ⟨_, Or.inl (SqL.of S1.g), ?_⟩⟩
    refine ⟨rfl, ?_⟩
    refine ⟨_, rfl, ?_⟩
    refine iteND (fun h => absurd rfl h) (fun _ => ?_)
    refine ⟨_, rfl, Or.inl ⟨_, Or.inl (SqL.of S1.g), ?_⟩⟩
    rw [List.length_map]
    refine ⟨_, rfl, by show -(2 ^ 62) ≤ ((L.length : Nat) : Int); omega, by show ((L.length : Nat) : Int) < 2 ^ 62; omega, for_range (lo := 0) (n := L.length) (fun _ σ H' => (∃ v3 : Option V, σ = [some (.ref sy), some (.ref lt), some (.ref q), v3]) ∧ H' = H1) ⟨⟨_, rfl⟩, rfl⟩ (fun i σ H' hi hI => ?_) (fun σ H' hI => by rw [hI.2]; exact k H1 f1)⟩
    obtain ⟨⟨v3, rfl⟩, rfl⟩ := hI
    obtain ⟨z, hz⟩ : ∃ z, L[i]? = some z := ⟨_, List.getElem?_eq_getElem hi⟩
    have at1 : atI (L.map V.str) (0 + (i : Int)) = some (.str z) := by rw [Int.zero_add]; exact atI_nat (str_at hz)
    refine ⟨_, rfl, _, rfl, Or.inl ⟨_, _, _, rfl, Or.inl (SqL.of q1), at1, ?_⟩⟩
    refine ⟨_, rfl, _, rfl, Or.inl ⟨_, _, _, rfl, Or.inl (SqL.of S1.g), at1, ?_⟩⟩
    refine ⟨Or.inr ⟨z, rfl⟩, ?_⟩
    refine ⟨_, rfl, iteF ?_⟩
    refine ⟨_, rfl, sy, dx, _, rfl, S1.S.sy, rfl, ?_⟩
    refine ⟨_, rfl, ?_⟩
    refine ⟨sy, dx, tl, nl, most, L, z, i, by rw [Int.zero_add]; rfl, S1.S, hz, ?_⟩
    refine ⟨_, rfl, _, rfl, Or.inl ⟨_, _, _, rfl, Or.inl (SqL.of S1.g), at1, ?_⟩⟩
    refine ⟨Or.inr ⟨z, rfl⟩, ?_⟩
    refine ⟨_, rfl, iteF ?_⟩
    refine ⟨_, rfl, sy, dx, _, rfl, S1.S.sy, rfl, ?_⟩
    refine ⟨_, rfl, _, rfl, Or.inl ⟨_, _, _, rfl, Or.inl (SqL.of S1.g), at1, ?_⟩⟩
    have zi := List.mem_of_getElem? hz
    refine ⟨sy, dx, tl, nl, most, L, z, rfl, S1.S, (fun h => absurd zi h), (by omega), hm, fun j hj => ?_, (fun h => absurd zi h), (fun h => absurd zi h), (fun h => absurd zi h)⟩
    have eij : j = i := (List.getElem?_inj (l := L) (i := j) (j := i) (List.getElem?_eq_some_iff.mp hj).1 S.S.nd).mp (by rw [hj, hz])
    subst eij
    refine ⟨_, rfl, ?_⟩
    refine ⟨Or.inl ⟨(j : Int), by rw [Int.zero_add]; rfl⟩, ?_⟩
    refine ⟨_, rfl, iteF ?_⟩
    refine ⟨_, rfl, sy, dx, _, rfl, S1.S.sy, rfl, ?_⟩
    refine ⟨_, rfl, _, rfl, Or.inl ⟨_, _, _, rfl, Or.inl (SqL.of S1.g), at1, ?_⟩⟩
    refine ⟨sy, dx, tl, nl, most, L, z, rfl, S1.S, ?_⟩
    rw [decide_eq_true zi]
    refine ⟨_, rfl, iteF ?_⟩
    exact ⟨⟨_, rfl⟩, rfl⟩
end
section
variable {P : Program} {w : World} {K : PySem.W.Frag} {mg : Str → Option Value} {base : Heap}
def sp_deed : Addr → Sp := fun C vs H Q _ => ∃ sy dx tl nl lt most L, ∃ x : Int, vs = [.ref sy, .ref lt, .int most, .int x] ∧ Law1 H C sy dx tl nl lt most L ∧ L.length < 99999 ∧ StrOk (.int most) ∧
  ∀ H' L', Law1 H' C sy dx tl nl lt most L' → L'.length ≤ L.length + 1 → Fr [tl, nl, lt] H H' → Q (.bl true) H'
theorem ok__law_deed (W : Wd P K mg) : FnOk P w K mg base CX0 5 W.f__law_deed W.fd__law_deed ["_law_symbols", "_law_texts", "_law_most", "_law_x"] (sp_deed W.c_Symbols) := by
  refine W.F__law_deed.ok sc__law_deed (fun vs H Q E h => ?_) (fun cdv A outer s H vs Q E hr h => ?_)
  · obtain ⟨sy, dx, tl, nl, lt, most, L, x, rfl, _⟩ := h
    rfl
  · obtain ⟨sy, dx, tl, nl, lt, most, L, x, rfl, S, hl, hm, k⟩ := h
    have hu1 := hu_of hr
    have hu64 := hu64_of hr
    have n1 : lt ≠ sy := ne_of S.g S.S.sy (by intro z; cases z)
    have n2 : lt ≠ nl := ne_of S.g S.S.nl (by intro z; cases z)
    have same := k H L S (by omega) Fr.rfl'
    refine ⟨_, (pss_cons (ps_set (i := 4) sc__law_deed.nd rfl (by first | exact Or.inl rfl | exact Or.inr rfl) (pe_op op_mod (pe_callTy call_intU (by rfl) W.n_int bb_int (pa_cons (pv 3) pa_nil)) pe_int))
      (pss_cons (ps_set (i := 5) sc__law_deed.nd rfl (by first | exact Or.inl rfl | exact Or.inr rfl) (pe_op op_fdivW (pv 3) pe_int))
      (pss_cons (ps_if (pt_cmpR op_ltU (pv 4) pe_int (by first | exact nomark _ | rfl)) (pss_one (ps_ret (pe_call (ok__law_asked W) (hr.mono (by decide)) rfl W.g__law_asked W.F__law_asked.kp W.b__law_asked .nil pass0 (pa_cons (pv 0) (pa_cons (pv 1) (pa_cons (pv 2) (pa_cons (pe_call (ok__law_text W) (hr.mono (by decide)) rfl W.g__law_text W.F__law_text.kp W.b__law_text .nil pass0 (pa_cons (pv 5) pa_nil)) pa_nil))))))) pss_nil)
      (pss_cons (ps_if (pt_cmpR (op_eqU hu64) (pv 4) pe_int (by first | exact nomark _ | rfl)) (pss_cons (ps_set (i := 6) sc__law_deed.nd rfl (by first | exact Or.inl rfl | exact Or.inr rfl) (pe_call (ok__law_text W) (hr.mono (by decide)) rfl W.g__law_text W.F__law_text.kp W.b__law_text .nil pass0 (pa_cons (pv 5) pa_nil)))
      (pss_cons (ps_if (pt_cmpR (op_inU hu1) (pv 6) (pv 1) (by first | exact nomark _ | rfl)) (pss_one (ps_ret (pe_cmpR op_isU (pe_meth (pv 0) W.C_Symbols W.m_Symbols_knows (ok_Symbols_knows W) (hr.mono (by decide)) W.b_Symbols_knows .nil pass0 (pa_cons (pv 6) pa_nil)) pe_bl (by first | exact nomark _ | rfl)))) pss_nil)
      (pss_one (ps_ret (pe_cmpR op_isU (pe_meth (pv 0) W.C_Symbols W.m_Symbols_knows (ok_Symbols_knows W) (hr.mono (by decide)) W.b_Symbols_knows .nil pass0 (pa_cons (pv 6) pa_nil)) pe_bl (by first | exact nomark _ | rfl)))))) pss_nil)
      (pss_cons (ps_if (pt_cmpR (op_eqU hu64) (pv 4) pe_int (by first | exact nomark _ | rfl)) (pss_cons (ps_if (pt_not (pt_truth (pv 1) (by intro _; rfl))) (pss_one (ps_ret pe_bl)) pss_nil)
      (pss_one (ps_ret (pe_call (ok__law_is W) (hr.mono (by decide)) rfl W.g__law_is W.F__law_is.kp W.b__law_is .nil pass0 (pa_cons (pe_meth (pv 0) W.C_Symbols W.m_Symbols_text (ok_Symbols_text W) (hr.mono (by decide)) W.b_Symbols_text .nil pass0 (pa_cons (pe_op op_mod (pe_callTy call_intU (by rfl) W.n_int bb_int (pa_cons (pv 5) pa_nil)) (pe_callB call_lenU (by rfl) W.n_len bb_len (pa_cons (pv 1) pa_nil))) pa_nil)) (pa_cons (pe_ix (ix_U hu1) (pv 1) (pe_op op_mod (pe_callTy call_intU (by rfl) W.n_int bb_int (pa_cons (pv 5) pa_nil)) (pe_callB call_lenU (by rfl) W.n_len bb_len (pa_cons (pv 1) pa_nil))) (fun _ _ => rfl)) pa_nil)))))) pss_nil)
      (pss_cons (ps_if (pt_cmpR (op_eqU hu64) (pv 4) pe_int (by first | exact nomark _ | rfl)) (pss_cons (ps_set (i := 7) sc__law_deed.nd rfl (by first | exact Or.inl rfl | exact Or.inr rfl) (pe_op op_mod (pe_callTy call_intU (by rfl) W.n_int bb_int (pa_cons (pv 5) pa_nil)) (pe_op op_addU (pe_callB call_lenU (by rfl) W.n_len bb_len (pa_cons (pv 1) pa_nil)) pe_int)))
      (pss_cons (ps_expr (pe_meth (pv 0) W.C_Symbols W.m_Symbols_cut (ok_Symbols_cut W) (hr.mono (by decide)) W.b_Symbols_cut .nil pass0 (pa_cons (pv 7) pa_nil)))
      (pss_cons (ps_for PassesOwn.never rfl (pi_range1 (by rfl) W.n_range (pa_cons (pe_op op_sub (pe_callB call_lenU (by rfl) W.n_len bb_len (pa_cons (pv 1) pa_nil)) (pv 7)) pa_nil)) (pg_name (i := 8) sc__law_deed.nd rfl (by first | exact Or.inl rfl | exact Or.inr rfl)) (pss_one (ps_expr (pe_bm0 PySem.F.plainAttrs_list PySem.F.slot_list_pop PySem.F.type_list_pop mt_pop (pv 1) ))))
      (pss_one (ps_ret pe_bl))))) pss_nil)
      (pss_cons (ps_expr (pe_bm PySem.F.plainAttrs_list PySem.F.slot_list_append PySem.F.type_list_append mt_append (pe_meth0 (pv 0) W.C_Symbols W.m_Symbols_texts (ok_Symbols_texts W) (hr.mono (by decide)) W.b_Symbols_texts .nil pass0 ) (pa_cons (pe_strT (show (PySem.Str.ofString "spoilt") = T [115, 112, 111, 105, 108, 116] by decide +kernel)) pa_nil)))
      (pss_cons (ps_expr (pe_bm0 PySem.F.plainAttrs_list PySem.F.slot_list_clear PySem.F.type_list_clear mt_clear (pe_meth0 (pv 0) W.C_Symbols W.m_Symbols_texts (ok_Symbols_texts W) (hr.mono (by decide)) W.b_Symbols_texts .nil pass0 ) ))
      (pss_one (ps_ret pe_bl)))))))))), ?_⟩
    refine ⟨_, rfl, _, _, rfl, rfl, (by show (0 : Int) < 7; decide), ?_⟩
    refine ⟨_, rfl, _, _, rfl, rfl, ⟨by decide, by decide⟩, ?_⟩
    refine ⟨_, rfl, _, rfl, ?_⟩
    refine iteD (fun h0 => ?_) (fun h0 => ?_)
    · refine ⟨_, rfl, _, rfl, _, rfl, _, rfl, ?_⟩
      refine ⟨x / 7, rfl, fun z hz => ?_⟩
      exact ⟨sy, dx, tl, nl, lt, most, L, z, rfl, S, hz, hl, hm, k⟩
    refine ⟨_, rfl, rfl, _, rfl, ?_⟩
    refine ite_eq (I_dec _ _) (iteD (fun h1 => ?_) (fun h1 => ?_))
    · refine ⟨_, rfl, ?_⟩
      refine ⟨x / 7, rfl, fun z hz => ?_⟩
      refine ⟨_, rfl, _, rfl, Or.inl ⟨_, Or.inl (SqL.of S.g), rfl, all_flat L, ?_⟩⟩
      rw [inV_str]
      refine ⟨_, rfl, ?_⟩
      refine iteD (fun h2 => ?_) (fun h2 => ?_)
      · refine ⟨_, rfl, sy, dx, _, rfl, S.S.sy, rfl, ?_⟩
        refine ⟨_, rfl, ?_⟩
        refine ⟨sy, dx, tl, nl, most, L, z, rfl, S.S, ?_⟩
        rw [decide_eq_true h2]
        exact same
      · refine ⟨_, rfl, sy, dx, _, rfl, S.S.sy, rfl, ?_⟩
        refine ⟨_, rfl, ?_⟩
        refine ⟨sy, dx, tl, nl, most, L, z, rfl, S.S, ?_⟩
        rw [decide_eq_false h2]
        exact same
    refine ⟨_, rfl, rfl, _, rfl, ?_⟩
    refine ite_eq (I_dec _ _) (iteD (fun h2 => ?_) (fun h2 => ?_))
    · refine ⟨_, rfl, _, Or.inl ⟨_, SqL.of S.g, rfl⟩, ?_⟩
      by_cases h3 : L = []
      · subst h3
        exact iteT same
      have l0 : 0 < L.length := List.length_pos_iff.mpr h3
      rw [show (L.map V.str).isEmpty = false by cases L with
        | nil => exact absurd rfl h3
        | cons a r => rfl]
      refine iteF ?_
      have m1 := Int.emod_nonneg (x / 7) (by omega : (L.length : Int) ≠ 0)
      have m2 := Int.emod_lt_of_pos (x / 7) (by omega : (0 : Int) < L.length)
      obtain ⟨j, hj⟩ : ∃ j : Nat, (x / 7) % (L.length : Int) = j := ⟨((x / 7) % (L.length : Int)).toNat, by omega⟩
      obtain ⟨u, hu⟩ : ∃ u, L[j]? = some u := ⟨L[j]'(by omega), List.getElem?_eq_getElem (by omega)⟩
      refine ⟨_, rfl, sy, dx, _, rfl, S.S.sy, rfl, ?_⟩
      refine ⟨_, rfl, _, rfl, Or.inl ⟨_, Or.inl (SqL.of S.g), ?_⟩⟩
      rw [List.length_map]
      refine ⟨_, _, rfl, rfl, (by omega), ?_⟩
      refine ⟨sy, dx, tl, nl, most, L, u, j, by rw [← hj]; rfl, S.S, hu, ?_⟩
      refine ⟨_, rfl, _, rfl, _, rfl, Or.inl ⟨_, Or.inl (SqL.of S.g), ?_⟩⟩
      rw [List.length_map]
      refine ⟨_, _, rfl, rfl, (by omega), ?_⟩
      refine Or.inl ⟨_, _, _, rfl, Or.inl (SqL.of S.g), (by rw [hj]; exact atI_nat (str_at hu)), ?_⟩
      exact ⟨Or.inr ⟨u, rfl⟩, same⟩
    refine ⟨_, rfl, rfl, _, rfl, ?_⟩
    refine ite_eq (I_dec _ _) (iteD (fun h3 => ?_) (fun h3 => ?_))
    · refine ⟨_, rfl, _, rfl, Or.inl ⟨_, Or.inl (SqL.of S.g), ?_⟩⟩
      rw [List.length_map]
      refine ⟨_, _, rfl, rfl, (by omega), ?_⟩
      have m1 := Int.emod_nonneg (x / 7) (by omega : (L.length : Int) + 3 ≠ 0)
      have m2 := Int.emod_lt_of_pos (x / 7) (by omega : (0 : Int) < (L.length : Int) + 3)
      obtain ⟨c, hc⟩ : ∃ c : Nat, (x / 7) % ((L.length : Int) + 3) = c := ⟨((x / 7) % ((L.length : Int) + 3)).toNat, by omega⟩
      show gName 7 (V.int ((x / 7) % ((L.length : Int) + 3))) _ H _
      rw [hc]
      refine ⟨_, rfl, sy, dx, _, rfl, S.S.sy, rfl, ?_⟩
      refine ⟨_, rfl, ?_⟩
      refine ⟨sy, dx, tl, nl, most, L, c, rfl, S.S, (by omega), fun H1 S1 f1 => ?_⟩
      have g1 : H1 lt = some (.lst (L.map V.str)) := f1 _ _ S.g (by simp [S.ne, n2])
      refine ⟨_, rfl, Or.inl ⟨_, Or.inl (SqL.of g1), ?_⟩⟩
      rw [List.length_map]
      refine ⟨_, rfl, ?_⟩
      refine ⟨_, _, rfl, rfl, ?_⟩
      refine ⟨_, rfl, by show -(2 ^ 62) ≤ (L.length : Int) - (c : Int); omega, by show (L.length : Int) - (c : Int) < 2 ^ 62; omega, for_range (lo := 0) (n := ((L.length : Int) - (c : Int)).toNat) (fun i σ H' => (∃ v8 : Option V, σ = [some (.ref sy), some (.ref lt), some (.int most), some (.int x), some (.int (x % 7)), some (.int (x / 7)), none, some (.int (c : Int)), v8]) ∧ H' lt = some (.lst ((L.take (L.length - i)).map V.str)) ∧ SymAt H' W.c_Symbols sy dx tl nl most (L.take c) ∧ Fr [tl, nl, lt] H H')
        ⟨⟨_, rfl⟩, by rw [Nat.sub_zero, List.take_length]; exact g1, S1, f1.mono (by simp)⟩ (fun i σ H' hi hI => ?_) (fun σ H' hI => ?_)⟩
      · obtain ⟨⟨v8, rfl⟩, b1, b2, b3⟩ := hI
        have hi : i < L.length - c := by omega
        obtain ⟨u, hu⟩ : ∃ u, L[L.length - i - 1]? = some u := ⟨L[L.length - i - 1]'(by omega), List.getElem?_eq_getElem (by omega)⟩
        refine ⟨_, rfl, Or.inl ⟨rfl, _, SqL.of b1⟩, ?_⟩
        have el : ((L.take (L.length - i)).map V.str).length = L.length - i := by rw [List.length_map, List.length_take]; omega
        refine ⟨lt, _, .str u, rfl, rfl, b1, ?_, ?_⟩
        · rw [el]
          exact str_at (by rw [List.getElem?_take, if_pos (by omega)]; exact hu)
        have e2 : ((L.take (L.length - i)).map V.str).dropLast = (L.take (L.length - (i + 1))).map V.str := by
          rw [List.dropLast_eq_take, el, ← List.map_take, List.take_take]
          congr 2
          omega
        rw [e2]
        have f2 : Fr [lt] H' (upd H' lt (.lst ((L.take (L.length - (i + 1))).map V.str))) := Fr.at (by simp)
        refine ⟨⟨_, rfl⟩, upd_same, b2.keep f2 (fun b hb => ?_), b3.trans (f2.mono (by simp))⟩
        simp only [List.mem_cons, List.not_mem_nil, or_false] at hb ⊢
        rcases hb with e | e | e
        · rw [e]; exact n1.symm
        · rw [e]; exact S.ne.symm
        · rw [e]; exact n2.symm
      · obtain ⟨⟨v8, rfl⟩, b1, b2, b3⟩ := hI
        have e : L.take (L.length - ((L.length : Int) - (c : Int)).toNat) = L.take c := by
          by_cases q : c ≤ L.length
          · congr 1; omega
          · rw [List.take_of_length_le (by omega), List.take_of_length_le (by omega)]
        rw [e] at b1
        exact k H' (L.take c) ⟨b2, b1, S.ne⟩ (by rw [List.length_take]; omega) b3
    · refine ⟨_, rfl, sy, dx, _, rfl, S.S.sy, rfl, ?_⟩
      refine ⟨sy, dx, tl, nl, most, L, rfl, S.S, fun q hq => ?_⟩
      have f1 : Fr [] H (upd H q (.lst (L.map V.str))) := Fr.new hq
      have q1 : upd H q (.lst (L.map V.str)) q = some (.lst (L.map V.str)) := upd_same
      have S1 := S.keep f1 (by simp)
      refine ⟨Or.inl ⟨rfl, _, SqL.of q1⟩, ?_⟩
      refine ⟨q, _, _, rfl, rfl, q1, (by rw [List.length_map, sizeLine_eq]; omega), ?_⟩
      have f2 : Fr [] H (upd (upd H q (.lst (L.map V.str))) q (.lst (L.map V.str ++ [.str (T [115, 112, 111, 105, 108, 116])]))) := by rw [upd_upd]; exact Fr.new hq
      generalize upd (upd H q (.lst (L.map V.str))) q (.lst (L.map V.str ++ [.str (T [115, 112, 111, 105, 108, 116])])) = H2 at f2
      have S2 := S.keep f2 (by simp)
      refine ⟨_, rfl, sy, dx, _, rfl, S2.S.sy, rfl, ?_⟩
      refine ⟨sy, dx, tl, nl, most, L, rfl, S2.S, fun q hq => ?_⟩
      have q1 : upd H2 q (.lst (L.map V.str)) q = some (.lst (L.map V.str)) := upd_same
      refine ⟨Or.inl ⟨rfl, _, SqL.of q1⟩, ?_⟩
      refine ⟨q, _, rfl, rfl, q1, ?_⟩
      have f3 : Fr [] H2 (upd (upd H2 q (.lst (L.map V.str))) q (.lst [])) := by rw [upd_upd]; exact Fr.new hq
      exact k _ L (S2.keep f3 (by simp)) (by omega) ((f2.trans f3).mono (by simp))
end

end LX
namespace LX
open PySem PySem.Spec PyProof.Rows L2 NdefX
section
variable {P : Program} {w : World} {K : PySem.W.Frag} {mg : Str → Option Value} {base : Heap}
theorem made_fr {H H' : Hp} {C sy dx : Addr} (hs : H sy = none) (hd : H dx = none) (f : ∀ b o, upd (upd H dx (.own sy)) sy (.ins C dx []) b = some o → b ≠ sy → H' b = some o) : Fr [] H H' := fun b o e _ => by
  have n1 := ne_of_none e hs
  have n2 := ne_of_none e hd
  exact f b o (by rw [upd_ne n1, upd_ne n2]; exact e) n1
theorem made_no {H : Hp} {C sy dx b : Addr} (h : upd (upd H dx (.own sy)) sy (.ins C dx []) b = none) : H b = none := by
  by_cases e1 : b = sy
  · rw [e1, upd_same] at h; cases h
  rw [upd_ne e1] at h
  by_cases e2 : b = dx
  · rw [e2, upd_same] at h; cases h
  rw [upd_ne e2] at h
  exact h
def sp_law (K : PySem.W.Frag) : Sp := fun vs H Q _ => ∃ (a : Addr) (ns : List Int), vs = [.ref a] ∧ SqL K H a (ns.map V.int) ∧ ns.length ≤ 63 ∧ ∀ H', Q (.bl true) H'
theorem ok_law (W : Wd P K mg) : FnOk P w K mg base CX0 6 W.f_law W.fd_law ["_law_script"] (sp_law K) := by
  refine W.F_law.ok sc_law (fun vs H Q E h => ?_) (fun cdv Ar outer s H vs Q E hr h => ?_)
  · obtain ⟨a, ns, rfl, _⟩ := h
    rfl
  · obtain ⟨a, ns, rfl, hs, hl, k⟩ := h
    have hu1 := hu_of hr
    have hu64 := hu64_of hr
    obtain ⟨ds_Symbols___init__, vd_Symbols___init__, bd_Symbols___init__⟩ := W.bd_Symbols___init__
    refine ⟨_, (pss_cons (ps_setLc (i := 1) (own := [("_law_cell", 2)]) (g := gName 2) (tt := tYes) rfl sc_law.nd rfl rfl (sw_true rfl rfl rfl (by decide +kernel)) (pi_list (pv 0)) (blkOk_by (N := N_law) (sc := defScope s_law) (by decide +kernel)) (fun _ _ _ _ _ => (pg_name (i := 2) sc_law.nd rfl (by first | exact Or.inl rfl | exact Or.inr rfl))) (fun _ _ _ _ _ => pts_nil) (fun _ _ _ _ _ => (pe_callTy call_intU (by rfl) W.n_int bb_int (pa_cons (pv 2) pa_nil))))
      (pss_cons (ps_set (i := 3) sc_law.nd rfl (by first | exact Or.inl rfl | exact Or.inr rfl) pe_int)
      (Evl.pss_cut (ps_if (pt_truth (pv 1) (by intro _; rfl)) (pss_one (ps_set (i := 3) sc_law.nd rfl (by first | exact Or.inl rfl | exact Or.inr rfl) (pe_op op_mod (pe_callTy call_intU (by rfl) W.n_int bb_int (pa_cons (pe_ix (ix_U hu1) (pv 1) pe_int (fun _ _ => rfl)) pa_nil)) pe_int))) pss_nil)
      (pss_cons (ps_set (i := 4) sc_law.nd rfl (by first | exact Or.inl rfl | exact Or.inr rfl) pe_int)
      (pss_cons (ps_set (i := 5) sc_law.nd rfl (by first | exact Or.inl rfl | exact Or.inr rfl) (pe_make0 W.M_Symbols (ok_Symbols___init__ W) (hr.mono (by decide)) rfl W.g_Symbols bd_Symbols___init__ vd_Symbols___init__ pass0 ))
      (Evl.pss_cut (ps_if (pt_cmpR op_ltU (pv 3) pe_int (by first | exact nomark _ | rfl)) (pss_cons (ps_set (i := 4) sc_law.nd rfl (by first | exact Or.inl rfl | exact Or.inr rfl) (pv 3))
      (pss_one (ps_set (i := 5) sc_law.nd rfl (by first | exact Or.inl rfl | exact Or.inr rfl) (pe_make W.M_Symbols (ok_Symbols___init__ W) (hr.mono (by decide)) rfl W.g_Symbols W.b_Symbols___init__ .nil pass0 (pa_cons (pv 4) pa_nil))))) pss_nil)
      (Evl.pss_cut (ps_if (PW.pt (pw_or (pt_not (pt_truth (pe_call (ok__law_is W) (hr.mono (by decide)) rfl W.g__law_is W.F__law_is.kp W.b__law_is .nil pass0 (pa_cons (pe_gi rfl W.g_LONGEST) (pa_cons pe_int pa_nil))) (by intro _; rfl))) (pw_or1 (pt_not (pt_truth (pe_call (ok__law_is W) (hr.mono (by decide)) rfl W.g__law_is W.F__law_is.kp W.b__law_is .nil pass0 (pa_cons (pe_fld (pv 5) rfl) (pa_cons (pv 4) pa_nil))) (by intro _; rfl)))))) (pss_one (ps_ret pe_bl)) pss_nil)
      (pss_cons (ps_set (i := 6) sc_law.nd rfl (by first | exact Or.inl rfl | exact Or.inr rfl) (pe_make W.M_Symbols (ok_Symbols___init__ W) (hr.mono (by decide)) rfl W.g_Symbols W.b_Symbols___init__ .nil pass0 (pa_cons pe_int pa_nil)))
      (pss_cons (ps_set (i := 7) sc_law.nd rfl (by first | exact Or.inl rfl | exact Or.inr rfl) (pe_lst pa_nil))
      (Evl.pss_cut (ps_for PassesOwn.never rfl (pi_range2 (by rfl) W.n_range (pa_cons pe_int (pa_cons (pe_callB call_lenU (by rfl) W.n_len bb_len (pa_cons (pv 1) pa_nil)) pa_nil))) (pg_name (i := 8) sc_law.nd rfl (by first | exact Or.inl rfl | exact Or.inr rfl)) (pss_one (ps_if (PW.pt (pw_or (pt_not (pt_truth (pe_call (ok__law_deed W) (hr.mono (by decide)) rfl W.g__law_deed W.F__law_deed.kp W.b__law_deed .nil pass0 (pa_cons (pv 5) (pa_cons (pv 7) (pa_cons (pv 4) (pa_cons (pe_call (ok__law_number W) (hr.mono (by decide)) rfl W.g__law_number W.F__law_number.kp W.b__law_number .nil pass0 (pa_cons (pe_ix (ix_U hu1) (pv 1) (pv 8) (fun _ _ => rfl)) (pa_cons (pv 8) pa_nil))) pa_nil))))) (by intro _; rfl))) (pw_or1 (pt_not (pt_truth (pe_call (ok__law_agrees W) (hr.mono (by decide)) rfl W.g__law_agrees W.F__law_agrees.kp W.b__law_agrees .nil pass0 (pa_cons (pv 5) (pa_cons (pv 7) pa_nil))) (by intro _; rfl)))))) (pss_one (ps_ret pe_bl)) pss_nil)))
      (pss_one (ps_ret (pe_and (pe_cmpR (op_eqU hu64) (pe_meth0 (pv 6) W.C_Symbols W.m_Symbols_count (ok_Symbols_count W) (hr.mono (by decide)) W.b_Symbols_count .nil pass0 ) pe_int (by first | exact nomark _ | rfl)) (pe_one (pe_cmpR (op_eqU hu64) (pe_meth (pv 6) W.C_Symbols W.m_Symbols_number (ok_Symbols_number W) (hr.mono (by decide)) W.b_Symbols_number .nil passF (pa_cons (pe_strT (show (PySem.Str.ofString "a") = T [97] by decide +kernel)) pa_nil)) pe_int (by first | exact nomark _ | rfl)))))))))))))))), ?_⟩
    -- cells
    refine ⟨_, rfl, a, rfl, ⟨_, hs⟩, fun cl hcl => ?_⟩
    refine lc_list (K := K) (a := a) (xs := ns.map V.int) (fun i H' => H' = upd H cl (.lst ((ns.take i).map V.int))) rfl (fun i H' _ e => ?_) (fun i x H' hx e => ?_) (fun H' e => ?_)
    · subst e
      have same : L2.Same H (upd H cl (.lst ((ns.take i).map V.int))) := fun b u e => by rw [upd_ne (ne_of_none e hcl)]; exact e
      exact same.seq hs
    · subst e
      rw [List.getElem?_map] at hx
      obtain ⟨n, hn, rfl⟩ := Option.map_eq_some_iff.mp hx
      refine ⟨rfl, ?_⟩
      refine ⟨_, rfl, ?_⟩
      refine ⟨_, upd_same, by rw [List.length_map, List.length_take, sizeLine_eq]; omega, ?_⟩
      rw [upd_upd, List.take_succ, hn, List.map_append]
      rfl
    subst e
    rw [List.length_map, List.take_length]
    have hc1 : upd H cl (.lst (ns.map V.int)) cl = some (.lst (ns.map V.int)) := upd_same
    show gName 1 (V.ref cl) _ (upd H cl (.lst (ns.map V.int))) _
    generalize upd H cl (.lst (ns.map V.int)) = H1 at hc1
    -- the limit
    refine ⟨fun σ H' => (∃ lim : Int, σ = [some (.ref a), some (.ref cl), none, some (.int lim), none, none, none, none, none] ∧ 0 ≤ lim ∧ lim < 18) ∧ H' = H1, ?_, ?_⟩
    · refine ⟨_, rfl, _, Or.inl ⟨_, SqL.of hc1, rfl⟩, ?_⟩
      cases ns with
      | nil => exact iteF ⟨⟨0, rfl, by decide, by decide⟩, rfl⟩
      | cons n0 r0 =>
        refine iteT ?_
        refine ⟨_, rfl, Or.inl ⟨_, _, _, rfl, Or.inl (SqL.of hc1), atI_nat (j := 0) rfl, ?_⟩⟩
        refine ⟨_, _, rfl, rfl, (by show (0 : Int) < 18; decide), ?_⟩
        exact ⟨⟨n0 % 18, rfl, Int.emod_nonneg _ (by decide), Int.emod_lt_of_pos _ (by decide)⟩, rfl⟩
    rintro σ H1' ⟨⟨lim, rfl, l0, l1⟩, rfl⟩
    -- the symbols
    refine fun sy0 dx0 hsy0 hdx0 ndx0 => ?_
    refine ⟨sy0, dx0, 100000, rfl, upd_same, fun H2 tl0 nl0 S2 f2 htl0 hnl0 => ⟨rfl, ?_⟩⟩
    have f2 := made_fr hsy0 hdx0 f2
    have hc2 := f2 _ _ hc1 (by simp)
    refine ⟨fun σ H' => ∃ (sy dx tl nl : Addr) (most : Int), σ = [some (.ref a), some (.ref cl), none, some (.int lim), some (.int most), some (.ref sy), none, none, none] ∧ SymAt H' W.c_Symbols sy dx tl nl most [] ∧ StrOk (.int most) ∧ H' cl = some (.lst (ns.map V.int)) ∧ cl ≠ tl, ?_, ?_⟩
    · refine ⟨_, rfl, _, rfl, ?_⟩
      refine iteD (fun h => ?_) (fun h => ⟨sy0, dx0, tl0, nl0, 100000, rfl, S2, (by show (100000 : Int).natAbs.log2 < 1920; decide), hc2, ne_of_none hc1 (made_no htl0)⟩)
      have h : lim < 12 := h
      refine ⟨_, rfl, _, rfl, ?_⟩
      refine fun sy dx hsy hdx ndx => ?_
      refine ⟨sy, dx, lim, rfl, upd_same, fun H3 tl nl S3 f3 htl hnl => ⟨rfl, ?_⟩⟩
      have f3 := made_fr hsy hdx f3
      refine ⟨sy, dx, tl, nl, lim, rfl, S3, ?_, f3 _ _ hc2 (by simp), ne_of_none hc2 (made_no htl)⟩
      show lim.natAbs.log2 < 1920
      have := Nat.log2_le_self lim.natAbs
      omega
    clear S2 f2 hc2 hc1
    rintro σ H3 ⟨sy, dx, tl, nl, most, rfl, S3, hm, hc3, pct⟩
    -- checks
    refine ⟨fun σ H' => σ = [some (.ref a), some (.ref cl), none, some (.int lim), some (.int most), some (.ref sy), none, none, none] ∧ H' = H3, ?_, ?_⟩
    · refine ⟨Or.inl ⟨4000, rfl⟩, ?_⟩
      refine ⟨_, rfl, iteF ?_⟩
      refine ⟨_, rfl, sy, _, dx, _, _, rfl, S3.sy, W.C_Symbols, W.na_Symbols_most, rfl, ?_⟩
      refine ⟨_, rfl, ?_⟩
      refine ⟨Or.inl ⟨most, rfl⟩, ?_⟩
      exact ⟨_, rfl, iteF ⟨rfl, rfl⟩⟩
    rintro σ H3' ⟨rfl, rfl⟩
    refine fun so dxo hso hdxo ndxo => ?_
    refine ⟨so, dxo, 1, rfl, upd_same, fun H4 to no S4 f4 hto hno => ⟨rfl, ?_⟩⟩
    have f4 := made_fr hso hdxo f4
    have S4' := S3.keep f4 (by simp)
    have hc4 := f4 _ _ hc3 (by simp)
    have o1 : so ≠ tl := (ne_of_none S3.tl hso).symm
    have o2 : so ≠ nl := (ne_of_none S3.nl hso).symm
    have o3 : to ≠ tl := (ne_of_none S3.tl (made_no hto)).symm
    have o4 : to ≠ nl := (ne_of_none S3.nl (made_no hto)).symm
    have o5 : no ≠ tl := (ne_of_none S3.tl (made_no hno)).symm
    have o6 : no ≠ nl := (ne_of_none S3.nl (made_no hno)).symm
    have p1 : cl ≠ nl := ne_of hc3 S3.nl (by intro z; cases z)
    refine ⟨(by show 0 ≤ sizeLine; decide), fun lt hlt => ?_⟩
    have f5 : Fr [] H4 (upd H4 lt (.lst [])) := Fr.new hlt
    have g5 : upd H4 lt (.lst []) lt = some (.lst (([] : List Str).map V.str)) := upd_same
    have nlt : lt ≠ tl := (ne_of_none S4'.tl hlt).symm
    have q1 : so ≠ lt := ne_of_none S4.sy hlt
    have q2 : to ≠ lt := ne_of_none S4.tl hlt
    have q3 : no ≠ lt := ne_of_none S4.nl hlt
    have q4 : cl ≠ lt := ne_of_none hc4 hlt
    show gName 7 (V.ref lt) _ (upd H4 lt (.lst [])) _
    generalize upd H4 lt (.lst []) = H5 at f5 g5
    have S5 := S4'.keep f5 (by simp)
    have R5 := S4.keep f5 (by simp)
    have hc5 := f5 _ _ hc4 (by simp)
    refine ⟨fun σ H' => (∃ v8 : Option V, σ = [some (.ref a), some (.ref cl), none, some (.int lim), some (.int most), some (.ref sy), some (.ref so), some (.ref lt), v8]) ∧ SymAt H' W.c_Symbols so dxo to no 1 [], ?_, ?_⟩
    · refine ⟨_, rfl, Or.inl ⟨_, Or.inl (SqL.of hc5), ?_⟩⟩
      rw [List.length_map]
      refine ⟨1, _, rfl, ⟨by decide, by decide, by omega, by omega⟩, for_range (lo := 1) (n := ((ns.length : Int) - 1).toNat) (fun i σ H' => ∃ (v8 : Option V) (L : List Str), σ = [some (.ref a), some (.ref cl), none, some (.int lim), some (.int most), some (.ref sy), some (.ref so), some (.ref lt), v8] ∧ Law1 H' W.c_Symbols sy dx tl nl lt most L ∧ L.length ≤ i ∧ Fr [tl, nl, lt] H5 H')
        ⟨_, [], rfl, ⟨S5, g5, nlt⟩, Nat.le_refl _, Fr.rfl'⟩ (fun i σ H6 hi hI => ?_) (fun σ H6 hI => ?_)⟩
      · obtain ⟨v8, L, rfl, R, hL, f6⟩ := hI
        have hc6 := f6 _ _ hc5 (by simp [pct, p1, q4])
        obtain ⟨c, hc⟩ : ∃ c, ns[1 + i]? = some c := ⟨ns[1 + i]'(by omega), List.getElem?_eq_getElem (by omega)⟩
        refine ⟨_, rfl, _, rfl, _, rfl, _, rfl, _, rfl, Or.inl ⟨_, _, _, rfl, Or.inl (SqL.of hc6), (by rw [show (1 : Int) + (i : Int) = ((1 + i : Nat) : Int) by omega]; exact atI_nat (int_at hc)), ?_⟩⟩
        refine ⟨_, rfl, ?_⟩
        refine ⟨c, 1 + (i : Int), rfl, by omega, by omega, fun x hx => ?_⟩
        refine ⟨sy, dx, tl, nl, lt, most, L, x, rfl, R, (by omega), hm, fun H7 L' R' hL' f7 => ?_⟩
        refine ⟨_, rfl, iteF ?_⟩
        refine ⟨_, rfl, _, rfl, ?_⟩
        refine ⟨sy, dx, tl, nl, lt, most, L', rfl, R', (by omega), hm, fun H8 f8 => ?_⟩
        refine ⟨_, rfl, iteF ?_⟩
        exact ⟨_, L', rfl, R'.keep f8 (by simp), by omega, (f6.trans f7).trans (f8.mono (by simp))⟩
      · obtain ⟨v8, L, rfl, R, hL, f6⟩ := hI
        refine ⟨⟨_, rfl⟩, R5.keep f6 (fun b hb => ?_)⟩
        simp only [List.mem_cons, List.not_mem_nil, or_false] at hb ⊢
        rcases hb with e | e | e
        · rw [e]; simp [o1, o2, q1]
        · rw [e]; simp [o3, o4, q2]
        · rw [e]; simp [o5, o6, q3]
    rintro σ H6 ⟨⟨v8, rfl⟩, R6⟩
    refine ⟨_, rfl, so, dxo, _, rfl, R6.sy, rfl, ?_⟩
    refine ⟨so, dxo, to, no, 1, [], rfl, R6, ?_⟩
    refine ⟨rfl, ?_⟩
    refine ⟨_, rfl, iteT ?_⟩
    refine ⟨_, rfl, so, dxo, _, rfl, R6.sy, rfl, ?_⟩
    refine ⟨so, dxo, to, no, 1, [], T [97], rfl, R6, (fun _ => by decide), (by decide), (by show (1 : Int).natAbs.log2 < 1920; decide), (fun j hj => by simp at hj), (fun _ h => absurd h (by decide)), (fun _ _ h => absurd h (by decide)), (fun _ _ _ H' _ _ => ?_)⟩
    refine ⟨rfl, ?_⟩
    exact k H'
end

end LX
namespace LX
open PySem PySem.Spec PyProof.Rows L2 NdefX

theorem all_mk {l : PySem.W.OpenLaw} {w : World} {K : PySem.W.Frag} {mg : Str → Option Value} {fa : Addr} (W : Wd l.prog K mg) (hfa : mg "law" = some (.ref fa)) :
    ∃ fd : FuncData, (∀ (s : Shared) (v : Value), BindsTo s fd ⟨[v], []⟩ [("_law_script", v)]) ∧ ∀ base : Heap, K.In base → base.Ns mainGlobals mg → FnOk l.prog w K mg base CX0 6 fa fd ["_law_script"] (sp_law K) := by
  have e := hfa.symm.trans W.g_law
  cases e
  obtain ⟨oc, od, kV, doc, pm, an, cdv, ct, osl, e, _, _⟩ := W.F_law.ex
  exact ⟨W.fd_law, fun s v => by rw [e]; exact .of_eq rfl, fun base _ _ => ok_law W⟩
theorem walk {l : PySem.W.OpenLaw} {q : Program} {loose : List Str} {XP : (Str → Option Value) → Heap → Prop} {YP : World → Heap → Prop} {d : DefRec} {K : Params → PySem.W.Frag} (hn : l.most = some 63) (hdf : d.params.defaults = [])
    (hY : ∀ (w : World) (h : Heap), YP w h → (K w.params).In h)
    (F : ∀ (w : World) (mg : Str → Option Value) (fa : Addr) (h : Heap), (K w.params).In h → h.Ns mainGlobals mg → mg d.name = some (.ref fa) →
      ∃ fd : FuncData, (∀ (s : Shared) (u : Value), BindsTo s fd ⟨[u], []⟩ [("_law_script", u)]) ∧ ∀ base : Heap, (K w.params).In base → base.Ns mainGlobals mg → FnOk l.prog w (K w.params) mg base CX0 6 fa fd ["_law_script"] (sp_law (K w.params))) :
    PySem.W.WalkO q loose XP YP l.row.toRowW d [] (fun f vs => PySem.call f vs) :=
  L2.walk_of (n := 63) (k := 6) (x := "_law_script") (CX := fun _ => CX0) (sp := fun w => sp_law (K w.params)) hn (by decide) hdf ⟨rfl, by decide, by decide⟩ hY F (fun _ _ a ns hl _ hS => ⟨a, ns, rfl, hS, hl, fun _ => rfl⟩) fun _ _ _ _ _ z => z

end LX

open PySem PySem.W PyProof.Rows
set_option maxRecDepth 100000 in
set_option maxHeartbeats 0 in
theorem PySem.Challenge.cw_saggar_k01_symbols_keep_numbers_holds : PySem.Challenge.rw_saggar_k01_symbols_keep_numbers.Holds := by
  w_on; o_law; k_head; (case hw => w_witness2)
  k_fill
  refine LX.walk (l := PySem.Challenge.rw_saggar_k01_symbols_keep_numbers) rfl rfl (fun w h Y => PySem.W.kIn_of Y) ?F
  case F =>
    intro w mg fa h KX G hmg
    refine' LX.all_mk (l := PySem.Challenge.rw_saggar_k01_symbols_keep_numbers) (LX.mkW KX G ?z_third ?z_super ?z_top ?z_sg ?z_st ?z_ValueError ?z_bool ?z_int ?z_isinstance ?z_len ?z_list ?z_range ?z_str ?c_MOST ?c_LONGEST ?cl_SaggarError ?cl_NoSymbol ?cl_Symbols ?pg_Symbols ?hd_Symbols ?po_Symbols ?sa_Symbols ?mk_Symbols ?kp_Symbols ?na_Symbols_most ?na_Symbols__texts ?na_Symbols__numbers ?a_NoSymbol___init__ ?l_NoSymbol___init__ ?c_NoSymbol___init__ ?k_NoSymbol___init__ ?x1_NoSymbol___init__ ?x2_NoSymbol___init__ ?x3_NoSymbol___init__ ?x4_NoSymbol___init__ ?xl_NoSymbol ?xr_NoSymbol ?xs_NoSymbol ?xe_NoSymbol ?xt_NoSymbol ?xk_NoSymbol ?xm_NoSymbol ?xi_NoSymbol ?xb_NoSymbol ?eg_NoSymbol ?ek_NoSymbol ?ed_NoSymbol ?ea_NoSymbol ?em_NoSymbol ?xn_NoSymbol_limit ?a_Symbols___init__ ?l_Symbols___init__ ?dl_Symbols___init__ ?c_Symbols___init__ ?k_Symbols___init__ ?fn_Symbols___init__ ?a_Symbols_count ?l_Symbols_count ?c_Symbols_count ?k_Symbols_count ?fn_Symbols_count ?a_Symbols_number ?l_Symbols_number ?c_Symbols_number ?k_Symbols_number ?fn_Symbols_number ?a_Symbols_knows ?l_Symbols_knows ?c_Symbols_knows ?k_Symbols_knows ?fn_Symbols_knows ?a_Symbols_text ?l_Symbols_text ?c_Symbols_text ?k_Symbols_text ?fn_Symbols_text ?a_Symbols_texts ?l_Symbols_texts ?c_Symbols_texts ?k_Symbols_texts ?fn_Symbols_texts ?a_Symbols_cut ?l_Symbols_cut ?c_Symbols_cut ?k_Symbols_cut ?fn_Symbols_cut ?a__law_number ?l__law_number ?c__law_number ?k__law_number ?a__law_text ?l__law_text ?c__law_text ?k__law_text ?a__law_is ?l__law_is ?c__law_is ?k__law_is ?a__law_asked ?l__law_asked ?c__law_asked ?k__law_asked ?a__law_agrees ?l__law_agrees ?c__law_agrees ?k__law_agrees ?a__law_deed ?l__law_deed ?c__law_deed ?k__law_deed ?a_law ?l_law ?c_law ?k_law ?qkb_S ?qkb_V ?qem_S) hmg
    (case z_third => first | k_is | ks_is | rfl | decide +kernel)
    (case z_super => first | k_is | ks_is | rfl | decide +kernel)
    (case z_top => first | k_is | ks_is | rfl | decide +kernel)
    (case z_sg => first | k_is | ks_is | rfl | decide +kernel)
    (case z_st => first | k_is | ks_is | rfl | decide +kernel)
    (case z_ValueError => first | k_is | ks_is | rfl | decide +kernel)
    (case z_bool => first | k_is | ks_is | rfl | decide +kernel)
    (case z_int => first | k_is | ks_is | rfl | decide +kernel)
    (case z_isinstance => first | k_is | ks_is | rfl | decide +kernel)
    (case z_len => first | k_is | ks_is | rfl | decide +kernel)
    (case z_list => first | k_is | ks_is | rfl | decide +kernel)
    (case z_range => first | k_is | ks_is | rfl | decide +kernel)
    (case z_str => first | k_is | ks_is | rfl | decide +kernel)
    (case c_MOST => first | k_is | ks_is | rfl | decide +kernel)
    (case c_LONGEST => first | k_is | ks_is | rfl | decide +kernel)
    (case cl_SaggarError => first | k_is | ks_is | rfl | decide +kernel)
    (case cl_NoSymbol => first | k_is | ks_is | rfl | decide +kernel)
    (case cl_Symbols => first | k_is | ks_is | rfl | decide +kernel)
    (case pg_Symbols => first | k_is | ks_is | rfl | decide +kernel)
    (case hd_Symbols => first | k_is | ks_is | rfl | decide +kernel)
    (case po_Symbols => first | k_is | ks_is | rfl | decide +kernel)
    (case sa_Symbols => first | k_is | ks_is | rfl | decide +kernel)
    (case mk_Symbols => first | k_is | ks_is | rfl | decide +kernel)
    (case kp_Symbols => first | k_is | ks_is | rfl | decide +kernel)
    (case na_Symbols_most => first | k_is | ks_is | rfl | decide +kernel)
    (case na_Symbols__texts => first | k_is | ks_is | rfl | decide +kernel)
    (case na_Symbols__numbers => first | k_is | ks_is | rfl | decide +kernel)
    (case a_NoSymbol___init__ => first | k_is | ks_is | rfl | decide +kernel)
    (case l_NoSymbol___init__ => first | k_is | ks_is | rfl | decide +kernel)
    (case c_NoSymbol___init__ => first | k_is | ks_is | rfl | decide +kernel)
    (case k_NoSymbol___init__ => first | k_is | ks_is | rfl | decide +kernel)
    (case x1_NoSymbol___init__ => first | k_is | ks_is | rfl | decide +kernel)
    (case x2_NoSymbol___init__ => first | k_is | ks_is | rfl | decide +kernel)
    (case x3_NoSymbol___init__ => first | k_is | ks_is | rfl | decide +kernel)
    (case x4_NoSymbol___init__ => first | k_is | ks_is | rfl | decide +kernel)
    (case xl_NoSymbol => first | k_is | ks_is | rfl | decide +kernel)
    (case xr_NoSymbol => first | k_is | ks_is | rfl | decide +kernel)
    (case xs_NoSymbol => first | k_is | ks_is | rfl | decide +kernel)
    (case xe_NoSymbol => first | k_is | ks_is | rfl | decide +kernel)
    (case xt_NoSymbol => first | k_is | ks_is | rfl | decide +kernel)
    (case xk_NoSymbol => first | k_is | ks_is | rfl | decide +kernel)
    (case xm_NoSymbol => first | k_is | ks_is | rfl | decide +kernel)
    (case xi_NoSymbol => first | k_is | ks_is | rfl | decide +kernel)
    (case xb_NoSymbol => first | k_is | ks_is | rfl | decide +kernel)
    (case eg_NoSymbol => first | k_is | ks_is | rfl | decide +kernel)
    (case ek_NoSymbol => first | k_is | ks_is | rfl | decide +kernel)
    (case ed_NoSymbol => first | k_is | ks_is | rfl | decide +kernel)
    (case ea_NoSymbol => first | k_is | ks_is | rfl | decide +kernel)
    (case em_NoSymbol => first | k_is | ks_is | rfl | decide +kernel)
    (case xn_NoSymbol_limit => first | k_is | ks_is | rfl | decide +kernel)
    (case a_Symbols___init__ => first | k_is | ks_is | rfl | decide +kernel)
    (case l_Symbols___init__ => first | k_is | ks_is | rfl | decide +kernel)
    (case dl_Symbols___init__ => first | k_is | ks_is | rfl | decide +kernel)
    (case c_Symbols___init__ => first | k_is | ks_is | rfl | decide +kernel)
    (case k_Symbols___init__ => first | k_is | ks_is | rfl | decide +kernel)
    (case fn_Symbols___init__ => first | k_is | ks_is | rfl | decide +kernel)
    (case a_Symbols_count => first | k_is | ks_is | rfl | decide +kernel)
    (case l_Symbols_count => first | k_is | ks_is | rfl | decide +kernel)
    (case c_Symbols_count => first | k_is | ks_is | rfl | decide +kernel)
    (case k_Symbols_count => first | k_is | ks_is | rfl | decide +kernel)
    (case fn_Symbols_count => first | k_is | ks_is | rfl | decide +kernel)
    (case a_Symbols_number => first | k_is | ks_is | rfl | decide +kernel)
    (case l_Symbols_number => first | k_is | ks_is | rfl | decide +kernel)
    (case c_Symbols_number => first | k_is | ks_is | rfl | decide +kernel)
    (case k_Symbols_number => first | k_is | ks_is | rfl | decide +kernel)
    (case fn_Symbols_number => first | k_is | ks_is | rfl | decide +kernel)
    (case a_Symbols_knows => first | k_is | ks_is | rfl | decide +kernel)
    (case l_Symbols_knows => first | k_is | ks_is | rfl | decide +kernel)
    (case c_Symbols_knows => first | k_is | ks_is | rfl | decide +kernel)
    (case k_Symbols_knows => first | k_is | ks_is | rfl | decide +kernel)
    (case fn_Symbols_knows => first | k_is | ks_is | rfl | decide +kernel)
    (case a_Symbols_text => first | k_is | ks_is | rfl | decide +kernel)
    (case l_Symbols_text => first | k_is | ks_is | rfl | decide +kernel)
    (case c_Symbols_text => first | k_is | ks_is | rfl | decide +kernel)
    (case k_Symbols_text => first | k_is | ks_is | rfl | decide +kernel)
    (case fn_Symbols_text => first | k_is | ks_is | rfl | decide +kernel)
    (case a_Symbols_texts => first | k_is | ks_is | rfl | decide +kernel)
    (case l_Symbols_texts => first | k_is | ks_is | rfl | decide +kernel)
    (case c_Symbols_texts => first | k_is | ks_is | rfl | decide +kernel)
    (case k_Symbols_texts => first | k_is | ks_is | rfl | decide +kernel)
    (case fn_Symbols_texts => first | k_is | ks_is | rfl | decide +kernel)
    (case a_Symbols_cut => first | k_is | ks_is | rfl | decide +kernel)
    (case l_Symbols_cut => first | k_is | ks_is | rfl | decide +kernel)
    (case c_Symbols_cut => first | k_is | ks_is | rfl | decide +kernel)
    (case k_Symbols_cut => first | k_is | ks_is | rfl | decide +kernel)
    (case fn_Symbols_cut => first | k_is | ks_is | rfl | decide +kernel)
    (case a__law_number => first | k_is | ks_is | rfl | decide +kernel)
    (case l__law_number => first | k_is | ks_is | rfl | decide +kernel)
    (case c__law_number => first | k_is | ks_is | rfl | decide +kernel)
    (case k__law_number => first | k_is | ks_is | rfl | decide +kernel)
    (case a__law_text => first | k_is | ks_is | rfl | decide +kernel)
    (case l__law_text => first | k_is | ks_is | rfl | decide +kernel)
    (case c__law_text => first | k_is | ks_is | rfl | decide +kernel)
    (case k__law_text => first | k_is | ks_is | rfl | decide +kernel)
    (case a__law_is => first | k_is | ks_is | rfl | decide +kernel)
    (case l__law_is => first | k_is | ks_is | rfl | decide +kernel)
    (case c__law_is => first | k_is | ks_is | rfl | decide +kernel)
    (case k__law_is => first | k_is | ks_is | rfl | decide +kernel)
    (case a__law_asked => first | k_is | ks_is | rfl | decide +kernel)
    (case l__law_asked => first | k_is | ks_is | rfl | decide +kernel)
    (case c__law_asked => first | k_is | ks_is | rfl | decide +kernel)
    (case k__law_asked => first | k_is | ks_is | rfl | decide +kernel)
    (case a__law_agrees => first | k_is | ks_is | rfl | decide +kernel)
    (case l__law_agrees => first | k_is | ks_is | rfl | decide +kernel)
    (case c__law_agrees => first | k_is | ks_is | rfl | decide +kernel)
    (case k__law_agrees => first | k_is | ks_is | rfl | decide +kernel)
    (case a__law_deed => first | k_is | ks_is | rfl | decide +kernel)
    (case l__law_deed => first | k_is | ks_is | rfl | decide +kernel)
    (case c__law_deed => first | k_is | ks_is | rfl | decide +kernel)
    (case k__law_deed => first | k_is | ks_is | rfl | decide +kernel)
    (case a_law => first | k_is | ks_is | rfl | decide +kernel)
    (case l_law => first | k_is | ks_is | rfl | decide +kernel)
    (case c_law => first | k_is | ks_is | rfl | decide +kernel)
    (case k_law => first | k_is | ks_is | rfl | decide +kernel)
    (case qkb_S => first | k_is | ks_is | rfl | decide +kernel)
    (case qkb_V => first | k_is | ks_is | rfl | decide +kernel)
    (case qem_S => first | k_is | ks_is | rfl | decide +kernel)
    all_goals first | exact PySem.Value.none | exact none | exact (0 : PySem.Addr)
